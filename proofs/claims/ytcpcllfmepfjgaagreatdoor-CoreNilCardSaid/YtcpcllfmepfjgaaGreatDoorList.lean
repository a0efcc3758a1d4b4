/- Table.List: the segments, in a slice of the call's own. -/
import Derived.Test.YtcpcllfmepfjgaaGreatDoorTable
import Derived.RangeFuncBox
import Derived.RangeFuncLeaves
import Derived.Shelf.Abstract
import Derived.OwnWalkIn
import Derived.TacticsInMore
import Derived.LoopNIn
import Derived.LoopIn
namespace Go.Proofs.YtcpcllfmepfjgaaGreatDoor.core
open Go.RowKit Go.Shelf Go.Proofs.YtcpcllfmepfjgaaGreatDoorW.PrintWords Go.Proofs.YtcpcllfmepfjgaaGreatDoorW.PrintLast Go.Proofs.YtcpcllfmepfjgaaGreatDoorW.PrintMore Go.Proofs.YtcpcllfmepfjgaaGreatDoor.PCoreNil
set_option linter.unusedVariables false
set_option linter.unusedSimpArgs false
attribute [local go_sem] max2_int min2_int max_two min_two max_three min_three max_four min_four
attribute [local go_sem] Oper.semAt_some

/-- What Within's closure has captured: the segments, the lowest and the highest key. -/
def SeqAt (W : World) (b1 b2 b3 : Nat) (lo hi : Int) (ad : Addr) (c : Nat) (L : List S52) : Prop :=
  W.cell? ⟨b1, 0, none⟩ = some (.slice (some ad) L.length c) ∧ W.cell? ⟨b2, 0, none⟩ = some (.int .u64 lo) ∧ W.cell? ⟨b3, 0, none⟩ = some (.int .u64 hi) ∧ Kd.C k52 W (some ad) L.length L

theorem box_elim {W W' : World} {v : Value} {b : Nat} {G : Prop} (h1 : W.cell? ⟨b, 0, none⟩ = some v) (h2 : W.frozen? ⟨b, 0, none⟩ = false) (hb : Below W.heap.size W W') (k : W'.cell? ⟨b, 0, none⟩ = some v → W'.frozen? ⟨b, 0, none⟩ = false → b < W'.heap.size → G) : G :=
  have hl := World.block_lt_of_cell? W _ h1
  k (pw_cell_below hb h1) ((hb.frozen (p := ⟨b, 0, none⟩) hl).trans h2) (Nat.lt_of_lt_of_le hl hb.size)
theorem below_call {B : Nat} {W W1 W2 : World} (h : Below B W W1) (hB : B ≤ W1.heap.size) (k : Below W1.heap.size W1 W2) : Below B W W2 := h.trans (k.mono hB)

set_option maxHeartbeats 2000000 in
set_option maxRecDepth 100000 in
theorem within_full (L : List S52) (base B : Nat) (limit : Int) (w : World) (hl : L.length ≤ 4611686018427387903) (hT : TableAt w base B limit L) (hF : Full L) :
    Calls Tryz.prog 69 #[.pointer (some ⟨B, 0, none⟩), .int .u64 0, .int .u64 18446744073709551615] w fun e w' =>
      ∃ b1 b2 b3 ad c, e = .returned (.func (.func 103) #[] #[.pointer (some ⟨b1, 0, none⟩), .pointer (some ⟨b2, 0, none⟩), .pointer (some ⟨b3, 0, none⟩)]) ∧ SeqAt w' b1 b2 b3 0 18446744073709551615 ad c L ∧ (w.cell? ⟨B, 1, none⟩ = some (.slice (some ad) L.length c) ∧ w.heap.size ≤ b1 ∧ w.heap.size ≤ b2 ∧ w.heap.size ≤ b3) ∧ Below w.heap.size w w' := by
  obtain ⟨A, c, hh, hc, hC⟩ := hT.reads
  have hBl : B < w.heap.size := (Array.getElem?_eq_some_iff.1 hh).1
  obtain ⟨ad, rfl, _⟩ := hC.2.2 hF.some
  have hs : w.cell? ⟨B, 1, none⟩ = some (.slice (some ad) L.length c) := cell_at hh 1
  have HCELL := Aside0.mk hs
  have HC := Aside0.mk hC
  have HFull := Aside0.mk hF
  have HR := Aside0.mk hF.rises
  have hne0 : ((L.length : Int) == 0) = false := beq_eq_false_iff_ne.2 (by have := hF.some; omega)
  have hlc : (L.length : Int) ≤ (c : Int) := by omega
  have hl0 : (0 : Int) ≤ (L.length : Int) := by omega
  have HT := Aside0.mk hT
  clear hh hC hT hF
  go_enter Tryz.func69, Tryz.ntmps69
  go_wp2_with fail
  refine wp_any (fun W hW => ?_)
  obtain ⟨g1, g2, g3⟩ := after_two hW
  have k1 := HT.out.below g3
  have k2 := pw_cell_below g3 hs
  have k3 : W.cell? ⟨w.heap.size, 0, none⟩ = some (.int .u64 0) := cell_at g1 0
  have k4 : W.cell? ⟨w.heap.size + 1, 0, none⟩ = some (.int .u64 18446744073709551615) := cell_at g2 0
  have k5 := Kd.C_below HC.out g3
  have G3 := Aside0.mk g3
  clear g1 g2 g3 hW hs HC HT
  have HL := Aside0.mk k5
  have HTW := Aside0.mk k1
  have WS : ∀ w', Below W.heap.size W w' → (Below W.heap.size W w' ∧ w'.cell? ⟨B, 1, none⟩ = some (.slice (some ad) L.length c) ∧ w'.cell? ⟨w.heap.size, 0, none⟩ = some (.int .u64 0) ∧ w'.cell? ⟨w.heap.size + 1, 0, none⟩ = some (.int .u64 18446744073709551615)) :=
    fun w' hb => ⟨hb, pw_cell_below hb k2, pw_cell_below hb k3, pw_cell_below hb k4⟩
  have HWS := Aside0.mk WS
  have kk := WS W.drew (below_drew (Below.refl _ _))
  clear k1 k2 k3 k4 k5 WS
  go_region_held3 (fun w' => Below W.heap.size W w' ∧ w'.cell? ⟨B, 1, none⟩ = some (.slice (some ad) L.length c) ∧ w'.cell? ⟨w.heap.size, 0, none⟩ = some (.int .u64 0) ∧ w'.cell? ⟨w.heap.size + 1, 0, none⟩ = some (.int .u64 18446744073709551615))
    (first | assumption | exact kk | exact HWS.out _ (below_alloc (And.left (by assumption)) _) | (refine HWS.out _ (Below.setCell (And.left (by assumption)) ?_ _); dsimp only; omega))
    (first
      | (go_at_call 78; with_reducible (refine (at_any L base B limit 0 _ hl (HTW.out.below (And.left (by assumption))) HR.out).mono ?_); rintro e w2 ⟨r1, rfl, hf, hb⟩; obtain rfl := HFull.out.first hf; have hws := HWS.out _ (below_call (And.left (by assumption)) (Below.size (And.left (by assumption))) hb); have HB2 := Aside0.mk hb; have hz2 := hws.1.size; (try (refine box_elim (v := Value.slice none 0 0) (b := W.heap.size) ?h1 ?h2 hb ?_; (case h1 => (simp; done)); (case h2 => (simp; done)); intro x1 x2 x3)); clear hf hb)
      | (go_at_call 78; with_reducible (refine (at_any L base B limit 18446744073709551615 _ hl (HTW.out.below (And.left (by assumption))) HR.out).mono ?_); rintro e w3 ⟨r2, rfl, hf, hb⟩; have hr2 := HFull.out.final hf; have hws3 := HWS.out _ (below_call (And.left (by assumption)) (Below.size (And.left (by assumption))) hb); have HB3 := Aside0.mk hb; have hz3 := hws3.1.size; have hz4 := hb.size; (try (refine box_elim (v := Value.slice none 0 0) (b := w2.heap.size) ?h1 ?h2 hb ?_; (case h1 => (simp; done)); (case h2 => (simp; done)); intro y1 y2 y3)); (try (refine box_elim x1 x2 hb ?_; intro z1 z2 z3)); have hr3 : IntKind.i64.wrap ((r2 : Int) + 1) = (L.length : Int) := (IntWalk.i64_in _ ⟨by omega, by omega⟩).trans (by omega); clear hr2 hf hb))
  all_goals
    go_wp2_with fail
    go_ret
    have hS := (by assumption : Below W.heap.size W _ ∧ _ ∧ _ ∧ _)
    have hg3 := G3.out.size
    refine ⟨_, _, _, ad, c, rfl, ⟨?_, hS.2.2.1, hS.2.2.2, Kd.C_below HL.out hS.1⟩, ⟨HCELL.out, by omega, by omega, by omega⟩, G3.out.trans (hS.1.mono G3.out.size)⟩
    first
      | exact cell_at (heap_new _ _) 0
      | (refine World.cell?_setCell_same' _ _ _ ?_; rw [y1]; rfl)
      | (refine World.cell?_setCell_same' _ _ _ ?_; rw [z1]; rfl)

set_option maxHeartbeats 1000000 in
set_option maxRecDepth 100000 in
theorem all_full (L : List S52) (base B : Nat) (limit : Int) (w : World) (hl : L.length ≤ 4611686018427387903) (hT : TableAt w base B limit L) (hF : Full L) :
    Calls Tryz.prog 39 #[.pointer (some ⟨B, 0, none⟩)] w fun e w' =>
      ∃ b1 b2 b3 ad c, e = .returned (.func (.func 103) #[] #[.pointer (some ⟨b1, 0, none⟩), .pointer (some ⟨b2, 0, none⟩), .pointer (some ⟨b3, 0, none⟩)]) ∧ SeqAt w' b1 b2 b3 0 18446744073709551615 ad c L ∧ (w.cell? ⟨B, 1, none⟩ = some (.slice (some ad) L.length c) ∧ w.heap.size ≤ b1 ∧ w.heap.size ≤ b2 ∧ w.heap.size ≤ b3) ∧ Below w.heap.size w w' := by
  have C1 := Aside0.mk (within_full L base B limit w hl hT hF)
  clear hT hF
  go_enter Tryz.func39, Tryz.ntmps39
  go_wp2_with fail
  refine C1.out.mono ?_
  rintro e w' ⟨b1, b2, b3, ad, c, rfl, hS, hx, hb⟩
  have HS := Aside0.mk hS
  have HB := Aside0.mk hb
  have HX := Aside0.mk hx
  clear hS hb hx
  go_wp2_with fail
  go_ret
  exact ⟨_, _, _, _, _, rfl, HS.out, HX.out, HB.out⟩

/-- What has come when k rounds are over. -/
def came (L : List S52) (k : Nat) : List S52 := (List.range k).map (fun j => rd_T52 L ((j : Nat) : Int))
theorem came_succ (L : List S52) (k : Nat) : came L (k + 1) = came L k ++ [rd_T52 L (k : Int)] := by simp [came, List.range_succ]
theorem came_length (L : List S52) (k : Nat) : (came L k).length = k := by simp [came]
theorem came_take (L : List S52) {k : Nat} (hk : k ≤ L.length) : came L k = L.take k := by
  apply List.ext_getElem
  · simp [came, hk]
  · intro i h1 h2
    have : i < L.length := by simp [came] at h1; omega
    simp [came, rd_T52, List.getD_eq_getElem?_getD, this]

def encSeg (x : S52) : Array Value := #[.agg #[.int .u64 x.f0, .int .u64 x.f1, .int .u8 x.f2]]

/-- Below N nothing turns but block b. -/
def Keeps0 (N b : Nat) (W W' : World) : Prop := ∀ i, i < N → i ≠ b → W'.heap[i]? = W.heap[i]?
theorem Keeps0.refl (N b : Nat) (W : World) : Keeps0 N b W W := fun _ _ _ => rfl
theorem Keeps0.trans {N b : Nat} {A B C : World} (h : Keeps0 N b A B) (k : Keeps0 N b B C) : Keeps0 N b A C := fun i hi hn => (k i hi hn).trans (h i hi hn)
theorem Keeps0.lt {b : Nat} {A B : World} (h : Keeps0 A.heap.size b A B) {i : Nat} (hi : i < A.heap.size) (hn : i ≠ b) : i < B.heap.size := by
  have e := h i hi hn
  rw [Array.getElem?_eq_getElem hi] at e
  exact (Array.getElem?_eq_some_iff.1 e).1
theorem Keeps0.below {N b : Nat} {A B : World} (h : Below N A B) : Keeps0 N b A B := fun i hi _ => h.block i hi
theorem Keeps0.cell {N b : Nat} {A B : World} (h : Keeps0 N b A B) {p : Addr} (hp : p.block < N) (hn : p.block ≠ b) {v : Value} (hc : A.cell? p = some v) : B.cell? p = some v :=
  (World.cell?_of_block (w := A) (h p.block hp hn)).trans hc
theorem Keeps0.segs {N b : Nat} {A B : World} (h : Keeps0 N b A B) {ad : Addr} (hp : ad.block < N) (hn : ad.block ≠ b) {n : Nat} {L : List S52} (hC : Kd.C k52 A (some ad) n L) : Kd.C k52 B (some ad) n L := by
  obtain ⟨h1, h2, h3⟩ := hC
  refine ⟨h1, h2, fun hz => ?_⟩
  obtain ⟨ad', e, hc⟩ := h3 hz
  cases e
  refine ⟨ad, rfl, fun j p hj => ?_⟩
  obtain ⟨c, e1, e2, e3⟩ := hc j p hj
  have hb : ∀ k, (ad.add k).block = ad.block := fun k => by unfold Addr.add; split <;> rfl
  exact ⟨c, e1, e2, fun i u hu => h.cell (by rw [hb]; exact hp) (by rw [hb]; exact hn) (e3 i u hu)⟩

set_option maxRecDepth 100000 in
set_option maxHeartbeats 2000000 in
/-- Within's closure: for every loop body that keeps what lay below n₀. -/
theorem within2_in (n : Nat) (hn : 1 ≤ n) (l b0 b1 b2 b3 : Nat) (L : List S52) (hlen : L.length ≤ 4611686018427387903) (hF : Full L) (w : World) (J Jx : List S52 → World → Prop)
    (hY : ∀ pre x W, J pre W → pre.length < L.length → YieldAt Fence.wide (n - 1) Tryz.prog l (encSeg x) W fun e W' =>
      (e = .returned (.bool true) ∧ J (pre ++ [x]) W' ∧ Keeps0 w.heap.size b0 W W') ∨ (e = .returned (.bool false) ∧ Jx (pre ++ [x]) W'))
    (hJ : ∀ pre W o, J pre W → J pre (W.alloc o))
    (W : World) (ad : Addr) (c : Nat) (hS : SeqAt w b1 b2 b3 0 18446744073709551615 ad c L) (n2 : b2 ≠ b0) (n3 : b3 ≠ b0) (na : ad.block ≠ b0) (hW : Below w.heap.size w W) (h0 : J [] W) :
    CallsIn Fence.wide n Tryz.prog 103 #[.func (.yield l) #[] #[], .pointer (some ⟨b1, 0, none⟩), .pointer (some ⟨b2, 0, none⟩), .pointer (some ⟨b3, 0, none⟩)] W fun e W' => (∃ v, e = .returned v) ∧
      ((∃ ys, ys = L ∧ J ys W') ∨ (∃ pre, pre <+: L ∧ Jx pre W')) := by
  obtain ⟨g1, g2, g3, hC⟩ := hS
  have hal : ad.block < w.heap.size := by
    obtain ⟨ad', e, hc⟩ := hC.2.2 hF.some
    cases e
    obtain ⟨cc, q1, q2, q3⟩ := hc 0 _ (List.getElem?_eq_getElem hF.some)
    have := World.block_lt_of_cell? _ _ (q3 0 _ (List.getElem?_eq_getElem (by rw [q1]; show 0 < k52.sz; decide)))
    have hb : ∀ k, (ad.add k).block = ad.block := fun k => by unfold Addr.add; split <;> rfl
    rwa [hb] at this
  have m2 := World.block_lt_of_cell? _ _ g2
  have m3 := World.block_lt_of_cell? _ _ g3
  have HA := Aside0.mk (And.intro hal na)
  have H2 := Aside0.mk (And.intro m2 n2)
  have H3 := Aside0.mk (And.intro m3 n3)
  clear hal na m2 n2 m3 n3
  have g1' := pw_cell_below hW g1
  have HW := Aside0.mk hW
  have G1 := Aside0.mk g1
  have G2 := Aside0.mk g2
  have G3 := Aside0.mk g3
  have HC := Aside0.mk hC
  clear g1 g2 g3 hC hW
  refine callsIn_of_wp Tryz.func103 rfl trivial ?_ rfl
  simp only [Tryz.ntmps103, List.size_toArray, List.length_cons, List.length_nil, Nat.reduceAdd, Nat.reduceSub, Array.replicate_succ, Array.replicate_zero, List.push_toArray, List.append_toArray, List.nil_append, List.cons_append]
  gi_wp2
  gi_loopw [9] (fun i wr => ∃ k : Nat, k ≤ L.length ∧ i = .int .i64 k ∧ J (came L k) wr ∧ Aside0 (Keeps0 w.heap.size b0 w wr))
    (fun i _ => L.length - (intOf i).toNat)
  case atStart => exact ⟨0, Nat.zero_le _, rfl, h0, ⟨Keeps0.below HW.out⟩⟩
  case round =>
    obtain ⟨k, hk, rfl, hJs, hnx⟩ := hrel
    by_cases hlt : k < L.length
    · have hb := hnx.out
      have hxm := rdSeg_mem L k hlt
      have hx0 := hF.lo _ hxm
      have hx1 := (hF.hi _ hxm).2
      obtain ⟨ad2, e2, c0, c1, c2⟩ := at_T52 (hb.segs HA.out.1 HA.out.2 HC.out) (k : Int) (by omega) (by omega)
      cases e2
      simp only [Int.toNat_natCast] at c0 c1 c2
      have f2 := hb.cell (p := ⟨b2, 0, none⟩) H2.out.1 H2.out.2 G2.out
      have f3 := hb.cell (p := ⟨b3, 0, none⟩) H3.out.1 H3.out.2 G3.out
      have l2 : b2 < wr.heap.size := World.block_lt_of_cell? _ _ f2
      have l3 : b3 < wr.heap.size := World.block_lt_of_cell? _ _ f3
      have hcs := came_succ L k
      generalize rd_T52 L (k : Int) = x at *
      have HCS := Aside0.mk hcs
      obtain ⟨fn, tmps, assign, body, hy, hR⟩ := hY _ x _ (hJ _ _ (.cells #[.int .u64 x.f0, .int .u64 x.f1, .int .u8 x.f2] 52) hJs) (by rw [came_length]; exact hlt)
      simp only [encSeg] at hy
      have hu := Tryz.underlying52
      clear hcs hxm hb
      gi_wp2
      refine hR.mono ?_
      have hba : Keeps0 w.heap.size b0 w (wr.alloc (.cells #[.int .u64 x.f0, .int .u64 x.f1, .int .u8 x.f2] 52)) := fun i hi hn => (Below.heap_alloc wr _ i (hnx.out.lt hi hn)).trans (hnx.out i hi hn)
      have HBA := Aside0.mk hba
      clear hba
      rintro e W3 (⟨rfl, hJ3, hk3⟩ | ⟨rfl, hJx3⟩)
      · have HB3 := Aside0.mk (HBA.out.trans hk3)
        gi_wp2
        go_roundw
        case rel => exact ⟨k + 1, by omega, by go_num, by rw [HCS.out]; exact hJ3, HB3⟩
        case measure => simp [intOf]; omega
      · gi_wp2
        refine bodyPost_ret (results_none rfl _ _ _) rfl ?_
        exact ⟨⟨_, rfl⟩, .inr ⟨came L (k + 1), by rw [came_take L (by omega)]; exact List.take_prefix _ _, by rw [HCS.out]; exact hJx3⟩⟩
    · obtain rfl : k = L.length := by omega
      gi_wp2
      go_end0
      exact ⟨⟨_, rfl⟩, .inl ⟨_, rfl, by rw [came_take L (Nat.le_refl _), List.take_length] at hJs; exact hJs⟩⟩

def cells3 (x : S52) : List Value := [.int .u64 x.f0, .int .u64 x.f1, .int .u8 x.f2]
def segCells (L : List S52) : List Value := L.flatMap cells3
theorem segCells_snoc (L : List S52) (x : S52) : segCells (L ++ [x]) = segCells L ++ cells3 x := by simp [segCells]
theorem segCells_len (L : List S52) : (segCells L).length = L.length * 3 := by
  induction L with
  | nil => rfl
  | cons x L ih =>
    have : segCells (x :: L) = cells3 x ++ segCells L := by simp [segCells]
    rw [this, List.length_append, ih, List.length_cons]
    simp [cells3]
    omega
theorem segReps {R : S52 → List Value → Prop} (hR : ∀ x, R x (cells3 x)) (L : List S52) : Reps R 3 L (segCells L) := by
  have key : ∀ l, l ≤ L.length → Reps R 3 (L.take l) (segCells (L.take l)) := by
    intro l
    induction l with
    | zero => intro _; exact Reps.none _ _
    | succ l ih =>
      intro h
      rw [List.take_succ_eq_append_getElem (by omega), segCells_snoc]
      exact (ih (by omega)).snoc (hR _) rfl
  have := key L.length (Nat.le_refl _)
  rwa [List.take_length] at this
theorem infoSeg : (Tryz.prog.info? 52).map (fun i => (i.zero, i.size, i.bytes)) = some (some (.agg #[.int .u64 0, .int .u64 0, .int .u8 0]), 3, 24) := by kernel_rfl

theorem within2_stops (n : Nat) (hn : 1 ≤ n) (b0 b1 b2 b3 : Nat) (L : List S52) (hlen : L.length ≤ 4611686018427387903) (hF : Full L) (w : World) (ad : Addr) (c : Nat) (hS : SeqAt w b1 b2 b3 0 18446744073709551615 ad c L) (n2 : b2 ≠ b0) (n3 : b3 ≠ b0) (na : ad.block ≠ b0) :
    SeqStopsK Fence.wide n Tryz.prog 103 #[.pointer (some ⟨b1, 0, none⟩), .pointer (some ⟨b2, 0, none⟩), .pointer (some ⟨b3, 0, none⟩)] encSeg (Keeps0 w.heap.size b0) (fun ys => ys = L) (fun pre => pre <+: L) L.length w := fun l J Jx W hW hJ _ hY h0 =>
  within2_in n hn l b0 b1 b2 b3 L hlen hF w J Jx hY (fun pre W' o h => hJ pre W' _ none h (World.grownBy_alloc W' o none) (fun r e => by cases e)) W ad c hS n2 n3 na hW h0
end Go.Proofs.YtcpcllfmepfjgaaGreatDoor.core
