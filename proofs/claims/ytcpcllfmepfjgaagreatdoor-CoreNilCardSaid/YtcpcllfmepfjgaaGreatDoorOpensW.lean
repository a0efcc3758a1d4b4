/- What a reading of an argument says of memory, with what the row says of its weights: 'OpensW': every value that reads as data of a type is one that the kind knows, and where all weights are within reach, so are its lists. No condition. -/
import Derived.Test.YtcpcllfmepfjgaaGreatDoorRows
import Derived.Test.YtcpcllfmepfjgaaGreatDoorWWords
import Derived.ChangeArms
import Derived.Deep.Slices
import Derived.DataReads
namespace Go.Proofs.YtcpcllfmepfjgaaGreatDoor.opensw
open Go.RowKit Go.Proofs.YtcpcllfmepfjgaaGreatDoorW.PrintWords
set_option linter.unusedVariables false

def Fine (l : List Nat) : Prop := ∀ n ∈ l, n ≤ reachBytes
theorem fine_of_all {l : List Nat} (h : l.all (· ≤ reachBytes) = true) : Fine l := fun n hn => of_decide_eq_true (List.all_eq_true.1 h n hn)
theorem Fine.left {l r : List Nat} (h : Fine (l ++ r)) : Fine l := fun n hn => h n (List.mem_append_left _ hn)
theorem Fine.right {l r : List Nat} (h : Fine (l ++ r)) : Fine r := fun n hn => h n (List.mem_append_right _ hn)

def OpensW (P : Program) (t : TypeId) {α : Type} (d : Kd α) (sz : α → Prop) : Prop :=
  ∀ (H : Type) (enc : TypeId × Value → H) (w : World) (base : Nat) (spare : Nat → Bool) (held : Bool) (fuel : Nat) (cs : List Value) (x : DataW H × List MemPlace),
    DataW.trod enc P w base spare held fuel t cs = some x → ∃ y : α, d.K w y cs ∧ (Fine (x.1.weights P t) → sz y)

def OpensFsW (P : Program) (off : Nat) (fs : List Field) {α : Type} (d : Kd α) (sz : α → Prop) : Prop :=
  ∀ (H : Type) (enc : TypeId × Value → H) (w : World) (base : Nat) (spare : Nat → Bool) (held : Bool) (n : Nat) (cs : List Value) (xs : List (DataW H × List MemPlace)),
    cs.length = off + d.sz → xs.length = fs.length → (∀ (i : Nat) (f : Field), fs[i]? = some f → DataW.trod enc P w base spare held n f.type ((cs.drop f.offset).take (P.cellsOf f.type)) = xs[i]?) →
    ∃ y : α, d.K w y (cs.drop off) ∧ (Fine (DataW.weightsEach P (fs.map (·.type)) (xs.map (·.1))) → sz y)

theorem opens_int {P : Program} {t : TypeId} {k : IntKind} (ht : P.underlying t = some (.int k)) : OpensW P t (Kd.int k) (fun n => (Lit.int k n).wf = true) := by
  intro H enc w base spare held fuel cs x h
  obtain ⟨n, rfl, rfl, hw⟩ := DataW.trod_int ht h
  exact ⟨n, rfl, fun _ => hw⟩
theorem opens_bool {P : Program} {t : TypeId} (ht : P.underlying t = some .bool) : OpensW P t Kd.bool (fun _ => True) := by
  intro H enc w base spare held fuel cs x h
  obtain ⟨n, rfl, rfl⟩ := DataW.trod_bool ht h
  exact ⟨n, rfl, fun _ => trivial⟩

theorem cells_get {w : World} {base : Nat} {a : Addr} {n : Nat} {cs : List Value} (h : w.cells? base a n = some cs) : cs.length = n ∧ ∀ i u, cs[i]? = some u → w.cell? (a.add i) = some u := by
  obtain ⟨_, hl, hc⟩ := World.cells?_some h
  refine ⟨hl, fun i u hu => ?_⟩
  have hi : i < n := by rw [← hl]; exact (List.getElem?_eq_some_iff.1 hu).1
  rw [hc i hi]
  exact hu

theorem weightsAll_mem {H : Type} (P : Program) (e : TypeId) (l : List (DataW H)) (h : Fine (DataW.weightsAll P e l)) : ∀ d ∈ l, Fine (d.weights P e) := by
  induction l with
  | nil => intro d hd; simp at hd
  | cons x l ih =>
    rw [DataW.weightsAll] at h
    intro d hd
    rcases List.mem_cons.1 hd with rfl | hd
    · exact h.left
    · exact ih h.right d hd

theorem opens_slice {P : Program} {t e : TypeId} {α : Type} {d : Kd α} {sz : α → Prop} (ht : P.underlying t = some (.slice e)) (hs : P.cellsOf e = d.sz) (ho : OpensW P e d sz) :
    OpensW P t (Kd.slice e d) (fun xs => xs.length * P.bytesOf e ≤ reachBytes ∧ ∀ x ∈ xs, sz x) := by
  intro H enc w base spare held fuel cs x h
  rcases Go.Deep.open_slice ht h with ⟨rfl, rfl⟩ | ⟨a, len, cap, m, n, D, Pl, rfl, hb, hl, hm, hmm, rfl, hx⟩
  · exact ⟨[], ⟨none, 0, rfl, Nat.le_refl _, rfl, by simp, fun h0 => absurd h0 (by simp)⟩, fun _ => ⟨by simp, fun x hx => by simp at hx⟩⟩
  · have hlm : len ≤ m := by rw [hmm]; split <;> omega
    have key : ∀ l, l ≤ len → ∃ xs : List α, xs.length = l ∧ (∀ i y, xs[i]? = some y → ∃ c, c.length = d.sz ∧ d.K w y c ∧ ∀ j u, c[j]? = some u → w.cell? (a.add (i * d.sz + j)) = some u) ∧
        ((∀ i, i < l → Fine ((D i).weights P e)) → ∀ y ∈ xs, sz y) := by
      intro l
      induction l with
      | zero => exact fun _ => ⟨[], rfl, fun i y hy => by simp at hy, fun _ y hy => by simp at hy⟩
      | succ l ih =>
        intro hle
        obtain ⟨xs, h1, h2, h4⟩ := ih (by omega)
        obtain ⟨cs', hc, htr⟩ := hx l (by omega)
        rw [hs] at hc
        obtain ⟨hcl, hcg⟩ := cells_get hc
        obtain ⟨y, hK, hg⟩ := ho H enc w base spare held n cs' _ htr
        refine ⟨xs ++ [y], by simp [h1], fun i z hz => ?_, fun hf z hz => ?_⟩
        · rcases Nat.lt_or_ge i xs.length with hi | hi
          · rw [List.getElem?_append_left hi] at hz
            exact h2 i z hz
          · have hi' : i = xs.length := by
              have := (List.getElem?_eq_some_iff.1 hz).1
              rw [List.length_append, List.length_singleton] at this
              omega
            subst hi'
            obtain rfl : y = z := by simpa using hz
            refine ⟨cs', hcl, hK, fun j u hu => ?_⟩
            rw [h1]
            have := hcg j u hu
            rwa [Go.Deep.add_add] at this
        · rcases List.mem_append.1 hz with hz | hz
          · exact h4 (fun i hi => hf i (by omega)) z hz
          · obtain rfl := List.mem_singleton.1 hz
            exact hg (hf l (by omega))
    obtain ⟨xs, h1, h2, h4⟩ := key len (Nat.le_refl _)
    refine ⟨xs, ⟨some a, cap, by rw [h1], by omega, rfl, ?_, fun _ => ⟨a, rfl, h2⟩⟩, fun hf => ?_⟩
    · have : cap ≤ 9223372036854775807 := by simpa [maxLen] using hm
      omega
    · simp only [DataW.weights, ht] at hf
      refine ⟨?_, h4 fun i hi => weightsAll_mem P e _ (Fine.left (fun n hn => hf n (List.mem_cons_of_mem _ hn))) (D i) ?_⟩
      · have hh := hf _ List.mem_cons_self
        refine Nat.le_trans (Nat.mul_le_mul_right _ ?_) hh
        simp only [List.length_map, List.length_range, h1]
        omega
      · exact List.mem_map.2 ⟨i, List.mem_range.2 hi, rfl⟩

theorem opens_iso {P : Program} {t : TypeId} {α β : Type} {d : Kd α} {sz : α → Prop} {f : β → α} (g : α → β) (hg : ∀ a, f (g a) = a) (ho : OpensW P t d sz) : OpensW P t (Kd.iso d f) (fun y => sz (f y)) := by
  intro H enc w base spare held fuel cs x h
  obtain ⟨y, hK, hgd⟩ := ho H enc w base spare held fuel cs x h
  refine ⟨g y, ?_, fun hf => ?_⟩
  · show d.K w (f (g y)) cs
    rw [hg]; exact hK
  · show sz (f (g y))
    rw [hg]; exact hgd hf
theorem opens_weak {P : Program} {t : TypeId} {α : Type} {d : Kd α} {sz sz' : α → Prop} (ho : OpensW P t d sz) (hg : ∀ y, sz y → sz' y) : OpensW P t d sz' := by
  intro H enc w base spare held fuel cs x h
  obtain ⟨y, hK, h2⟩ := ho H enc w base spare held fuel cs x h
  exact ⟨y, hK, fun hf => hg y (h2 hf)⟩

theorem fs_one {P : Program} {off : Nat} {f : Field} {α : Type} {d : Kd α} {sz : α → Prop} (hoff : f.offset = off) (hs : P.cellsOf f.type = d.sz) (ho : OpensW P f.type d sz) : OpensFsW P off [f] d sz := by
  intro H enc w base spare held n cs xs hl hxl h
  obtain ⟨x, rfl⟩ : ∃ x, xs = [x] := by
    match xs, hxl with
    | [x], _ => exact ⟨x, rfl⟩
  have h0 := h 0 f rfl
  have hlen : (cs.drop off).length = d.sz := by rw [List.length_drop, hl]; omega
  rw [hoff, hs, ← hlen, List.take_length] at h0
  obtain ⟨y, hK, hg⟩ := ho H enc w base spare held n _ x h0
  refine ⟨y, hK, fun hf => hg ?_⟩
  simp only [List.map_cons, List.map_nil, DataW.weightsEach] at hf
  exact hf.left

theorem fs_cons {P : Program} {off : Nat} {f : Field} {fs : List Field} {α β : Type} {a : Kd α} {b : Kd β} {ga : α → Prop} {gb : β → Prop} (hoff : f.offset = off) (hs : P.cellsOf f.type = a.sz) (ho : OpensW P f.type a ga) (hr : OpensFsW P (off + a.sz) fs b gb) :
    OpensFsW P off (f :: fs) (Kd.pair a b) (fun y => ga y.1 ∧ gb y.2) := by
  intro H enc w base spare held n cs xs hl hxl h
  obtain ⟨x, xs', rfl⟩ : ∃ x xs', xs = x :: xs' := by
    match xs, hxl with
    | x :: xs', _ => exact ⟨x, xs', rfl⟩
  have hl' : cs.length = off + (a.sz + b.sz) := hl
  have h0 := h 0 f rfl
  rw [hoff, hs] at h0
  obtain ⟨y, hK, hg⟩ := ho H enc w base spare held n _ x h0
  obtain ⟨z, hK', hg'⟩ := hr H enc w base spare held n cs xs' (by rw [hl']; omega) (by simpa using hxl) (fun i f' hf' => by have := h (i + 1) f' (by simpa using hf'); simpa using this)
  refine ⟨(y, z), ⟨_, _, ?_, hK, hK'⟩, fun hf => ?_⟩
  · rw [← List.drop_drop, List.take_append_drop]
  · simp only [List.map_cons, DataW.weightsEach] at hf
    exact ⟨hg hf.left, hg' hf.right⟩

theorem opens_struct {P : Program} {t : TypeId} {fs : Array Field} {α : Type} {d : Kd α} {sz : α → Prop} (ht : P.underlying t = some (.struct fs)) (hs : P.cellsOf t = d.sz) (ho : OpensFsW P 0 fs.toList d sz) : OpensW P t d sz := by
  intro H enc w base spare held fuel cs x h
  obtain ⟨xs, n, rfl, rfl, hl, hxl, hx⟩ := DataW.trod_struct ht h
  obtain ⟨y, hK, hg⟩ := ho H enc w base spare held n cs xs (by rw [hl, hs]; omega) (by simpa using hxl) (fun i f hf => hx i f (by simpa using hf))
  refine ⟨y, by simpa using hK, fun hf => hg ?_⟩
  simp only [DataW.weights, ht] at hf
  exact hf
end Go.Proofs.YtcpcllfmepfjgaaGreatDoor.opensw
