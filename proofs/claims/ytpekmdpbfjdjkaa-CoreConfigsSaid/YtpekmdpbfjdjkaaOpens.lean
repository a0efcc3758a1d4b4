/- What a reading of an argument says of memory, kind by kind: 'Opens': every value that reads as data of a type is one that the kind knows, its size is bounded by the bulk of what was read. No condition. -/
import Derived.Test.YtpekmdpbfjdjkaaRows
import Derived.Test.YtpekmdpbfjdjkaaWWords
import Derived.ChangeArms
import Derived.Deep.Slices
import Derived.DataReads
namespace Go.Proofs.Ytpekmdpbfjdjkaa.opens
open Go.RowKit Go.Proofs.YtpekmdpbfjdjkaaW.PrintWords
set_option linter.unusedVariables false

/-- Every reading of type t is a value of kind d; wt bounds its size by the bulk; good holds of it. -/
def Opens (P : Program) (t : TypeId) {α : Type} (d : Kd α) (wt : α → Nat) (good : α → Prop) : Prop :=
  ∀ (H : Type) (enc : TypeId × Value → H) (w : World) (base : Nat) (spare : Nat → Bool) (held : Bool) (fuel : Nat) (cs : List Value) (x : DataW H × List MemPlace),
    DataW.trod enc P w base spare held fuel t cs = some x → ∃ y : α, d.K w y cs ∧ wt y ≤ Rows.uptoBulk x.1 ∧ good y

def OpensFs (P : Program) (off : Nat) (fs : List Field) {α : Type} (d : Kd α) (wt : α → Nat) (good : α → Prop) : Prop :=
  ∀ (H : Type) (enc : TypeId × Value → H) (w : World) (base : Nat) (spare : Nat → Bool) (held : Bool) (n : Nat) (cs : List Value) (xs : List (DataW H × List MemPlace)),
    cs.length = off + d.sz → xs.length = fs.length → (∀ (i : Nat) (f : Field), fs[i]? = some f → DataW.trod enc P w base spare held n f.type ((cs.drop f.offset).take (P.cellsOf f.type)) = xs[i]?) →
    ∃ y : α, d.K w y (cs.drop off) ∧ wt y ≤ Rows.uptoBulkAll (xs.map (·.1)) ∧ good y

theorem one_le {H : Type} (d : DataW H) : 1 ≤ Rows.uptoBulk d := by
  cases d with
  | lit l => cases l <;> simp [Rows.uptoBulk]
  | nil => simp [Rows.uptoBulk]
  | ptr d => simp [Rows.uptoBulk]
  | slice elems spare => simp [Rows.uptoBulk]
  | agg parts => simp [Rows.uptoBulk]
  | iface t d => simp [Rows.uptoBulk]
  | map entries => simp [Rows.uptoBulk]
  | held h => simp [Rows.uptoBulk]

theorem bulk_append {H : Type} (l r : List (DataW H)) : Rows.uptoBulkAll (l ++ r) = Rows.uptoBulkAll l + Rows.uptoBulkAll r := by
  induction l with
  | nil => simp [Rows.uptoBulkAll]
  | cons x l ih => simp only [List.cons_append, Rows.uptoBulkAll, ih]; omega

theorem opens_int {P : Program} {t : TypeId} {k : IntKind} (ht : P.underlying t = some (.int k)) : Opens P t (Kd.int k) (fun _ => 1) (fun n => (Lit.int k n).wf = true) := by
  intro H enc w base spare held fuel cs x h
  obtain ⟨n, rfl, rfl, hw⟩ := DataW.trod_int ht h
  exact ⟨n, rfl, one_le _, hw⟩

theorem opens_bool {P : Program} {t : TypeId} (ht : P.underlying t = some .bool) : Opens P t Kd.bool (fun _ => 1) (fun _ => True) := by
  intro H enc w base spare held fuel cs x h
  obtain ⟨n, rfl, rfl⟩ := DataW.trod_bool ht h
  exact ⟨n, rfl, one_le _, trivial⟩

theorem opens_string {P : Program} {t : TypeId} (ht : P.underlying t = some .string) : Opens P t Kd.string (fun s => s.size + 1) (fun _ => True) := by
  intro H enc w base spare held fuel cs x h
  obtain ⟨s, rfl, rfl, hs⟩ := DataW.trod_string ht h
  exact ⟨s, rfl, by simp [Rows.uptoBulk], trivial⟩

theorem cells_get {w : World} {base : Nat} {a : Addr} {n : Nat} {cs : List Value} (h : w.cells? base a n = some cs) : cs.length = n ∧ ∀ i u, cs[i]? = some u → w.cell? (a.add i) = some u := by
  obtain ⟨_, hl, hc⟩ := World.cells?_some h
  refine ⟨hl, fun i u hu => ?_⟩
  have hi : i < n := by rw [← hl]; exact (List.getElem?_eq_some_iff.1 hu).1
  rw [hc i hi]
  exact hu

theorem opens_slice {P : Program} {t e : TypeId} {α : Type} {d : Kd α} {wt : α → Nat} {good : α → Prop} (ht : P.underlying t = some (.slice e)) (hs : P.cellsOf e = d.sz) (ho : Opens P e d wt good) :
    Opens P t (Kd.slice e d) (fun xs => (xs.map wt).sum + 1) (fun xs => ∀ x ∈ xs, good x) := by
  intro H enc w base spare held fuel cs x h
  rcases Go.Deep.open_slice ht h with ⟨rfl, rfl⟩ | ⟨a, len, cap, m, n, D, Pl, rfl, hb, hl, hm, hmm, rfl, hx⟩
  · exact ⟨[], ⟨none, 0, rfl, Nat.le_refl _, rfl, by simp, fun h0 => absurd h0 (by simp)⟩, one_le _, fun x hx => by simp at hx⟩
  · have hlm : len ≤ m := by rw [hmm]; split <;> omega
    have key : ∀ l, l ≤ len → ∃ xs : List α, xs.length = l ∧ (∀ i y, xs[i]? = some y → ∃ c, c.length = d.sz ∧ d.K w y c ∧ ∀ j u, c[j]? = some u → w.cell? (a.add (i * d.sz + j)) = some u) ∧
        (xs.map wt).sum ≤ Rows.uptoBulkAll ((List.range l).map D) ∧ ∀ y ∈ xs, good y := by
      intro l
      induction l with
      | zero => exact fun _ => ⟨[], rfl, fun i y hy => by simp at hy, by simp, fun y hy => by simp at hy⟩
      | succ l ih =>
        intro hle
        obtain ⟨xs, h1, h2, h3, h4⟩ := ih (by omega)
        obtain ⟨cs', hc, htr⟩ := hx l (by omega)
        rw [hs] at hc
        obtain ⟨hcl, hcg⟩ := cells_get hc
        obtain ⟨y, hK, hw, hg⟩ := ho H enc w base spare held n cs' _ htr
        refine ⟨xs ++ [y], by simp [h1], fun i z hz => ?_, ?_, fun z hz => ?_⟩
        · rcases Nat.lt_or_ge i xs.length with hi | hi
          · rw [List.getElem?_append_left hi] at hz
            exact h2 i z hz
          · have hi' : i = xs.length := by
              have := (List.getElem?_eq_some_iff.1 hz).1
              rw [List.length_append, List.length_singleton] at this
              omega
            subst hi'
            obtain rfl : y = z := by simpa using hz
            refine ⟨cs', hcl, hK, fun j u hu => ?_⟩
            rw [h1]
            have := hcg j u hu
            rwa [Go.Deep.add_add] at this
        · rw [List.map_append, List.sum_append, List.range_succ, List.map_append, bulk_append]
          simp only [List.map_cons, List.map_nil, List.sum_cons, List.sum_nil, Rows.uptoBulkAll, Nat.add_zero]
          exact Nat.add_le_add h3 hw
        · rcases List.mem_append.1 hz with hz | hz
          · exact h4 z hz
          · obtain rfl := List.mem_singleton.1 hz
            exact hg
    obtain ⟨xs, h1, h2, h3, h4⟩ := key len (Nat.le_refl _)
    refine ⟨xs, ⟨some a, cap, by rw [h1], by omega, rfl, ?_, fun _ => ⟨a, rfl, h2⟩⟩, ?_, h4⟩
    · have : cap ≤ 9223372036854775807 := by simpa [maxLen] using hm
      omega
    · simp only [Rows.uptoBulk]
      omega

theorem opens_iso {P : Program} {t : TypeId} {α β : Type} {d : Kd α} {wt : α → Nat} {good : α → Prop} {f : β → α} (g : α → β) (hg : ∀ a, f (g a) = a) (ho : Opens P t d wt good) :
    Opens P t (Kd.iso d f) (fun y => wt (f y)) (fun y => good (f y)) := by
  intro H enc w base spare held fuel cs x h
  obtain ⟨y, hK, hw, hgd⟩ := ho H enc w base spare held fuel cs x h
  refine ⟨g y, ?_, ?_, ?_⟩
  · show d.K w (f (g y)) cs
    rw [hg]; exact hK
  · show wt (f (g y)) ≤ _
    rw [hg]; exact hw
  · show good (f (g y))
    rw [hg]; exact hgd

theorem opens_weak {P : Program} {t : TypeId} {α : Type} {d : Kd α} {wt wt' : α → Nat} {good good' : α → Prop} (ho : Opens P t d wt good) (hw : ∀ y, wt' y ≤ wt y) (hg : ∀ y, good y → good' y) : Opens P t d wt' good' := by
  intro H enc w base spare held fuel cs x h
  obtain ⟨y, hK, h1, h2⟩ := ho H enc w base spare held fuel cs x h
  exact ⟨y, hK, Nat.le_trans (hw y) h1, hg y h2⟩

theorem fs_one {P : Program} {off : Nat} {f : Field} {α : Type} {d : Kd α} {wt : α → Nat} {good : α → Prop} (hoff : f.offset = off) (hs : P.cellsOf f.type = d.sz) (ho : Opens P f.type d wt good) : OpensFs P off [f] d wt good := by
  intro H enc w base spare held n cs xs hl hxl h
  obtain ⟨x, rfl⟩ : ∃ x, xs = [x] := by
    match xs, hxl with
    | [x], _ => exact ⟨x, rfl⟩
  have h0 := h 0 f rfl
  have hlen : (cs.drop off).length = d.sz := by rw [List.length_drop, hl]; omega
  rw [hoff, hs, ← hlen, List.take_length] at h0
  obtain ⟨y, hK, hw, hg⟩ := ho H enc w base spare held n _ x h0
  exact ⟨y, hK, by simpa [Rows.uptoBulkAll] using hw, hg⟩

theorem fs_cons {P : Program} {off : Nat} {f : Field} {fs : List Field} {α β : Type} {a : Kd α} {b : Kd β} {wa : α → Nat} {wb : β → Nat} {ga : α → Prop} {gb : β → Prop} (hoff : f.offset = off) (hs : P.cellsOf f.type = a.sz) (ho : Opens P f.type a wa ga) (hr : OpensFs P (off + a.sz) fs b wb gb) :
    OpensFs P off (f :: fs) (Kd.pair a b) (fun y => wa y.1 + wb y.2) (fun y => ga y.1 ∧ gb y.2) := by
  intro H enc w base spare held n cs xs hl hxl h
  obtain ⟨x, xs', rfl⟩ : ∃ x xs', xs = x :: xs' := by
    match xs, hxl with
    | x :: xs', _ => exact ⟨x, xs', rfl⟩
  have hl' : cs.length = off + (a.sz + b.sz) := hl
  have h0 := h 0 f rfl
  rw [hoff, hs] at h0
  obtain ⟨y, hK, hw, hg⟩ := ho H enc w base spare held n _ x h0
  obtain ⟨z, hK', hw', hg'⟩ := hr H enc w base spare held n cs xs' (by rw [hl']; omega) (by simpa using hxl) (fun i f' hf' => by have := h (i + 1) f' (by simpa using hf'); simpa using this)
  refine ⟨(y, z), ⟨_, _, ?_, hK, hK'⟩, ?_, hg, hg'⟩
  · rw [← List.drop_drop, List.take_append_drop]
  · simp only [List.map_cons, Rows.uptoBulkAll]
    omega

theorem opens_struct {P : Program} {t : TypeId} {fs : Array Field} {α : Type} {d : Kd α} {wt : α → Nat} {good : α → Prop} (ht : P.underlying t = some (.struct fs)) (hs : P.cellsOf t = d.sz) (ho : OpensFs P 0 fs.toList d wt good) : Opens P t d (fun y => wt y + 1) good := by
  intro H enc w base spare held fuel cs x h
  obtain ⟨xs, n, rfl, rfl, hl, hxl, hx⟩ := DataW.trod_struct ht h
  obtain ⟨y, hK, hw, hg⟩ := ho H enc w base spare held n cs xs (by rw [hl, hs]; omega) (by simpa using hxl) (fun i f hf => hx i f (by simpa using hf))
  refine ⟨y, by simpa using hK, ?_, hg⟩
  simp only [Rows.uptoBulk]
  omega

theorem bound {H : Type} {l : List (DataW H)} (hk : Rows.uptoSmall H l = true) : Rows.uptoBulkAll l ≤ 1048576 := of_decide_eq_true hk

end Go.Proofs.Ytpekmdpbfjdjkaa.opens
