/- Table.at: the number of the segment that a key lies in: sort.Search over the closure that at hands it. -/
import Derived.Test.YtcpcllfmepfjgaaGreatDoorCoreNew
namespace Go.Proofs.YtcpcllfmepfjgaaGreatDoor.core
open Go.RowKit Go.Proofs.YtcpcllfmepfjgaaGreatDoorW.PrintWords Go.Proofs.YtcpcllfmepfjgaaGreatDoorW.PrintLast Go.Proofs.YtcpcllfmepfjgaaGreatDoorW.PrintMore Go.Proofs.YtcpcllfmepfjgaaGreatDoor.PCoreNil
set_option linter.unusedVariables false
set_option linter.unusedSimpArgs false

/-- A table in memory: its limit and its segments. -/
def TableAt (W : World) (base B : Nat) (limit : Int) (L : List S52) : Prop :=
  ∃ v, W.heap[B]? = some (.cells #[.int .i64 limit, v] 141 (0, 0)) ∧ Kd.R k52 52 W base (fun _ => True) v L
theorem TableAt.move {T : Nat} {W W' : World} {base B : Nat} {limit : Int} {L : List S52} (h : TableAt W base B limit L) (hm : Moves T W W') (h1 : T ≠ 141) (h2 : T ≠ 52) : TableAt W' base B limit L := by
  obtain ⟨v, hB, hR⟩ := h
  exact ⟨v, (hm B _ _ hB (Ne.symm h1)).trans hB, R_moves hR hm (fun q hq => by
    rcases List.mem_cons.1 hq with rfl | hq
    · exact Ne.symm h2
    · exact absurd hq (by simp [k52, Kd.iso, Kd.pair, Kd.int, Kd.scalar]))⟩
theorem TableAt.below {W W' : World} {base B : Nat} {limit : Int} {L : List S52} (h : TableAt W base B limit L) (hb : Below W.heap.size W W') : TableAt W' base B limit L :=
  h.move (T := 0) (Moves.below hb) (by decide) (by decide)
theorem TableAt.reads {W : World} {base B : Nat} {limit : Int} {L : List S52} (h : TableAt W base B limit L) : ∃ A c, W.heap[B]? = some (.cells #[.int .i64 limit, .slice A L.length c] 141 (0, 0)) ∧ L.length ≤ c ∧ Kd.C k52 W A L.length L := by
  obtain ⟨v, hB, hR⟩ := h
  obtain ⟨A, c, rfl, hl, hC⟩ := Kd.R_reads hR
  exact ⟨A, c, hB, hl, hC⟩

def hiAt (L : List S52) (i : Nat) : Int := (rd_T52 L (i : Int)).f1

set_option maxHeartbeats 1000000 in
set_option maxRecDepth 100000 in
/-- The closure of at: is the i-th segment's end at or above the key? -/
theorem at1_any (L : List S52) (base B b1 b2 : Nat) (limit key : Int) (i : Nat) (W : World) (hi : i < L.length) (hT : TableAt W base B limit L)
    (h1 : W.cell? ⟨b1, 0, none⟩ = some (.pointer (some ⟨B, 0, none⟩))) (h2 : W.cell? ⟨b2, 0, none⟩ = some (.int .u64 key)) :
    Calls Tryz.prog 106 #[.int .i64 i, .pointer (some ⟨b1, 0, none⟩), .pointer (some ⟨b2, 0, none⟩)] W fun e w' => e = .returned (.bool (decide (key ≤ hiAt L i))) ∧ ∃ m, w' = W.drewN m := by
  obtain ⟨A, c, hh, hc, hC⟩ := hT.reads
  have hs : W.cell? ⟨B, 1, none⟩ = some (.slice A L.length c) := by rw [cell_at hh 1]; rfl
  obtain ⟨ad, e1, hx0, hx1, hx2⟩ := at_T52 hC (i : Int) (by omega) (by omega)
  subst e1
  simp only [Int.toNat_natCast] at hx0 hx1 hx2
  have p1 : (0 : Int) ≤ (i : Int) := by omega
  have q1 : (i : Int) < (L.length : Int) := by omega
  clear hh hC hc
  go_enter Tryz.func106, Tryz.ntmps106
  go_wp2_with fail
  go_quiet (fail)
  go_wp2_with fail
  go_ret
  exact ⟨rfl, _, rfl⟩

theorem wp_any {P : Program} {c : Code} {Q : Exit → Act → World → Prop} {a : Act} {w : World} (h : ∀ W, W = w → c.wp P Q a W) : c.wp P Q a w := h w rfl
theorem calls_any {P : Program} {f : FuncId} {args : Array Value} {w : World} {R : Ending → World → Prop} (h : ∀ W, W = w → Calls P f args W R) : Calls P f args w R := h w rfl
def Rises (L : List S52) : Prop := ∀ i j, i ≤ j → j < L.length → hiAt L i ≤ hiAt L j
/-- r is the first segment whose end is at or above the key. -/
def FirstAt (L : List S52) (key : Int) (r : Nat) : Prop := r ≤ L.length ∧ (∀ k, k < r → hiAt L k < key) ∧ (r < L.length → key ≤ hiAt L r)

set_option maxHeartbeats 1000000 in
set_option maxRecDepth 100000 in
theorem search_any (L : List S52) (base B b1 b2 : Nat) (limit key : Int) (w : World) (hl : L.length ≤ 4611686018427387903) (hT : TableAt w base B limit L) (hR : Rises L)
    (h1 : w.cell? ⟨b1, 0, none⟩ = some (.pointer (some ⟨B, 0, none⟩))) (h2 : w.cell? ⟨b2, 0, none⟩ = some (.int .u64 key)) :
    Calls Tryz.prog 105 #[.int .i64 L.length, .func (.func 106) #[] #[.pointer (some ⟨b1, 0, none⟩), .pointer (some ⟨b2, 0, none⟩)]] w fun e w' =>
      ∃ r : Nat, e = .returned (.int .i64 r) ∧ FirstAt L key r ∧ ∃ m, w' = w.drewN m := by
  have C1 := Aside0.mk (fun (i m : Nat) (hi : i < L.length) => at1_any L base B b1 b2 limit key i (w.drewN m) hi (hT.below (pw_below_drewN (Below.refl _ _) m)) h1 h2)
  have HR := Aside0.mk hR
  clear hT h1 h2 hR
  go_enter Tryz.func105, Tryz.ntmps105
  go_wp2_with fail
  go_loopw [5, 6] (fun v5 v6 wr => ∃ i j : Nat, i ≤ j ∧ j ≤ L.length ∧ v5 = .int .i64 i ∧ v6 = .int .i64 j ∧ Aside0 (∀ k, k < i → hiAt L k < key) ∧ Aside0 (j < L.length → key ≤ hiAt L j) ∧ Aside0 (∃ m, wr = w.drewN m)) (fun v5 v6 _ => (intOf v6).toNat - (intOf v5).toNat)
  case atStart => exact ⟨0, L.length, Nat.zero_le _, Nat.le_refl _, rfl, rfl, ⟨fun k hk => absurd hk (by omega)⟩, ⟨fun hk => absurd hk (by omega)⟩, ⟨0, rfl⟩⟩
  case round =>
    obtain ⟨i, j, hij, hj, rfl, rfl, HI, HJ, ⟨m, rfl⟩⟩ := hrel
    by_cases hlt : i < j
    · have hh : ((i : Int) + j) / 2 = (((i + j) / 2 : Nat) : Int) := by omega
      have hlo : i ≤ (i + j) / 2 := by omega
      have hhi : (i + j) / 2 < j := by omega
      have hs0 : (0 : Int) ≤ (i : Int) + j := by omega
      have hs1 : (i : Int) + j ≤ 9223372036854775806 := by omega
      go_wp2_with fail
      obtain ⟨t, ht0⟩ : ∃ t : Int, (i : Int) + (j : Int) = t := ⟨_, rfl⟩
      rw [ht0]
      rw [ht0] at hs0 hs1
      have HSUM := Aside0.mk ht0
      clear ht0 hh
      go_wp2_with fail
      obtain ⟨mid, hmid⟩ : ∃ mid : Nat, mid = (i + j) / 2 := ⟨_, rfl⟩
      have ht : t / 2 = (mid : Int) := by have := HSUM.out; omega
      have hlo' : i ≤ mid := by omega
      have hhi' : mid < j := by omega
      rw [ht]
      clear ht hmid hlo hhi hs0 hs1 HSUM
      refine (C1.out mid _ (by omega)).mono ?_
      rintro e w' ⟨rfl, m2, rfl⟩
      by_cases hk : key ≤ hiAt L mid
      · have hd : decide (key ≤ hiAt L mid) = true := decide_eq_true hk
        have HKEY := Aside0.mk hk
        clear hk
        go_wp2_with fail
        go_roundw
        case rel => exact ⟨i, mid, hlo', by omega, rfl, rfl, HI, ⟨fun _ => HKEY.out⟩, ⟨m + m2, rfl⟩⟩
        case measure => simp [intOf]; omega
      · have hd : decide (key ≤ hiAt L mid) = false := decide_eq_false hk
        have HKEY := Aside0.mk hk
        clear hk
        go_wp2_with fail
        go_roundw
        case rel => exact ⟨mid + 1, j, by omega, hj, by go_num, rfl, ⟨fun k hk => by have := HR.out k mid (by omega) (by omega); have := HKEY.out; omega⟩, HJ, ⟨m + m2, rfl⟩⟩
        case measure => simp [intOf]; omega
    · obtain rfl : i = j := by omega
      go_wp2_with fail
      go_ret
      exact ⟨_, rfl, ⟨hj, HI.out, HJ.out⟩, m, rfl⟩

set_option maxHeartbeats 1000000 in
set_option maxRecDepth 100000 in
theorem at_any (L : List S52) (base B : Nat) (limit key : Int) (w : World) (hl : L.length ≤ 4611686018427387903) (hT : TableAt w base B limit L) (hR : Rises L) :
    Calls Tryz.prog 78 #[.pointer (some ⟨B, 0, none⟩), .int .u64 key] w fun e w' => ∃ r : Nat, e = .returned (.int .i64 r) ∧ FirstAt L key r ∧ Below w.heap.size w w' := by
  obtain ⟨A, c, hh, hc, hC⟩ := hT.reads
  have hBl : B < w.heap.size := (Array.getElem?_eq_some_iff.1 hh).1
  have hs : w.cell? ⟨B, 1, none⟩ = some (.slice A L.length c) := cell_at hh 1
  have HT := Aside0.mk hT
  have HR := Aside0.mk hR
  clear hh hc hC hT hR
  go_enter Tryz.func78, Tryz.ntmps78
  go_wp2_with fail
  refine calls_any (fun W hW => ?_)
  obtain ⟨h1, h2, hb⟩ := after_two hW
  have e1 : W.cell? ⟨w.heap.size, 0, none⟩ = some (.pointer (some ⟨B, 0, none⟩)) := cell_at h1 0
  have e2 : W.cell? ⟨w.heap.size + 1, 0, none⟩ = some (.int .u64 key) := cell_at h2 0
  have HB := Aside0.mk hb
  clear hW hb
  refine (search_any L base B _ _ limit key W hl (HT.out.below HB.out) HR.out e1 e2).mono ?_
  rintro e w' ⟨r, rfl, hF, m, rfl⟩
  have HF := Aside0.mk hF
  clear hF
  go_wp2_with fail
  go_ret
  exact ⟨r, rfl, HF.out, pw_below_drewN HB.out m⟩

/-- All keys are some segment's. -/
structure Full (L : List S52) : Prop where
  some : 0 < L.length
  rises : Rises L
  lo : ∀ x ∈ L, 0 ≤ x.f0
  hi : ∀ x ∈ L, 0 ≤ x.f1 ∧ x.f1 ≤ 18446744073709551615
  last : hiAt L (L.length - 1) = 18446744073709551615
  only : ∀ k, k + 1 < L.length → hiAt L k < 18446744073709551615
theorem rdSeg_mem (L : List S52) (i : Nat) (h : i < L.length) : rd_T52 L (i : Int) ∈ L := by
  have e : rd_T52 L (i : Int) = L[i] := by simp [rd_T52, List.getD_eq_getElem?_getD, h]
  rw [e]
  exact List.getElem_mem h
theorem Full.first {L : List S52} (h : Full L) {r : Nat} (hf : FirstAt L 0 r) : r = 0 := by
  obtain ⟨h1, h2, h3⟩ := hf
  rcases Nat.eq_zero_or_pos r with h0 | h0
  · exact h0
  · have a := h2 0 h0
    have b := (h.hi _ (rdSeg_mem L 0 h.some)).1
    exact absurd a (by show ¬ _ < _; unfold hiAt; omega)
theorem Full.final {L : List S52} (h : Full L) {r : Nat} (hf : FirstAt L 18446744073709551615 r) : r + 1 = L.length := by
  obtain ⟨h1, h2, h3⟩ := hf
  have hs := h.some
  rcases Nat.lt_or_ge r L.length with h4 | h4
  · rcases Nat.lt_or_ge (r + 1) L.length with h5 | h5
    · have := h.only r h5
      have := h3 h4
      omega
    · omega
  · have := h2 (L.length - 1) (by omega)
    rw [h.last] at this
    omega

theorem full_new : Full [⟨0, 18446744073709551615, 0⟩] where
  some := by simp
  rises := fun i j hij hj => by
    have hj' : j < 1 := hj
    obtain rfl : j = 0 := by omega
    obtain rfl : i = 0 := by omega
    exact Int.le_refl _
  lo := fun x hx => by
    obtain rfl := List.mem_singleton.1 hx
    simp
  hi := fun x hx => by
    obtain rfl := List.mem_singleton.1 hx
    simp
  last := rfl
  only := fun k hk => by
    have hk' : k + 1 < 1 := hk
    omega
end Go.Proofs.YtcpcllfmepfjgaaGreatDoor.core
