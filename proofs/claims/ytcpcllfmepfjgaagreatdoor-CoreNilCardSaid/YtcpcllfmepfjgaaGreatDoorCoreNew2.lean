/- core.New: of a configuration that may not be: nothing; of one that may be: the new core, block by block. -/
import Derived.Test.YtcpcllfmepfjgaaGreatDoorCoreNew
import Derived.Test.YtcpcllfmepfjgaaGreatDoorTable
import Derived.Test.YtcpcllfmepfjgaaGreatDoorCfg
namespace Go.Proofs.YtcpcllfmepfjgaaGreatDoor.core
open Go.RowKit Go.Proofs.YtcpcllfmepfjgaaGreatDoorW.PrintWords Go.Proofs.YtcpcllfmepfjgaaGreatDoorW.PrintLast Go.Proofs.YtcpcllfmepfjgaaGreatDoorW.PrintMore Go.Proofs.YtcpcllfmepfjgaaGreatDoor.PCoreNil
set_option linter.unusedVariables false
set_option linter.unusedSimpArgs false

def MapNew (W : World) (B : Nat) (f t : Nat) : Prop := W.heap[B]? = some (.cells #[.func (.func f) #[] #[], .pointer none] t (0, 0))
theorem MapNew.move {T : Nat} {W W' : World} {B f t : Nat} (h : MapNew W B f t) (hm : Moves T W W') (ht : T ≠ t) : MapNew W' B f t := (hm B _ _ h (Ne.symm ht)).trans h
def ShelfNew (W : World) (B : Nat) : Prop := ∃ M, W.heap[B]? = some (.cells #[.pointer (some ⟨M, 0, none⟩), .int .i64 32768, .int .i64 0] 125 (0, 0)) ∧ MapNew W M 77 195
theorem ShelfNew.move {T : Nat} {W W' : World} {B : Nat} (h : ShelfNew W B) (hm : Moves T W W') (h1 : T ≠ 125) (h2 : T ≠ 195) : ShelfNew W' B := by
  obtain ⟨M, hB, hM⟩ := h
  exact ⟨M, (hm B _ _ hB (Ne.symm h1)).trans hB, hM.move hm h2⟩

theorem checkCfg (h cl pa bo q wi gr ke mt ne pt tr : Int) (w : World) : Calls Tryz.prog 25 #[.agg #[.int .i64 h, .int .i64 cl, .int .i64 pa, .int .i64 bo, .int .i64 q, .int .i64 wi, .int .i64 gr, .int .i64 ke, .int .i64 mt, .int .i64 ne, .int .i64 pt, .int .i64 tr]] w fun e w' =>
    e = .returned (.int .i64 (if Good h cl pa bo q wi gr ke mt ne pt tr then 0 else 100)) ∧ Below w.heap.size w w' :=
  core_CheckConfig.calls h cl pa bo q wi gr ke mt ne pt tr _ w (chk_prog ..)

set_option maxHeartbeats 1000000 in
set_option maxRecDepth 100000 in
theorem coreNew_bad (h cl pa bo q wi gr ke mt ne pt tr self : Int) (w : World) (s0 : 0 ≤ self) (s1 : self ≤ 255) (hbad : ¬ Good h cl pa bo q wi gr ke mt ne pt tr ∨ h ≤ self) :
    Calls Tryz.prog 9 #[.agg #[.int .i64 h, .int .i64 cl, .int .i64 pa, .int .i64 bo, .int .i64 q, .int .i64 wi, .int .i64 gr, .int .i64 ke, .int .i64 mt, .int .i64 ne, .int .i64 pt, .int .i64 tr], .int .u8 self] w fun e w' =>
      e = .returned (.tuple #[.pointer none, .int .i64 100]) ∧ Below w.heap.size w w' := by
  have hu := Tryz.underlying48
  have C1 := Aside0.mk (fun w => checkCfg h cl pa bo q wi gr ke mt ne pt tr w)
  by_cases hg : Good h cl pa bo q wi gr ke mt ne pt tr
  · have hs : h ≤ self := hbad.resolve_left (fun k => k hg)
    rw [if_pos hg] at C1
    clear hg hbad
    go_enter Tryz.func9, Tryz.ntmps9
    go_wp2_with fail
    refine (C1.out _).mono ?_
    rintro e w1 ⟨rfl, hb⟩
    have hc0 : w1.cell? ⟨w.heap.size, 0, none⟩ = some (.int .i64 h) := (hb.cell (p := ⟨w.heap.size, 0, none⟩) (by simp)).trans (by simp)
    have HB := Aside0.mk hb
    clear hb
    go_wp2_with fail
    go_ret2
    exact ⟨rfl, ((Below.refl _ w).alloc (Nat.le_refl _) _).trans (HB.out.mono (by simp))⟩
  · rw [if_neg hg] at C1
    clear hg hbad
    go_enter Tryz.func9, Tryz.ntmps9
    go_wp2_with fail
    refine (C1.out _).mono ?_
    rintro e w1 ⟨rfl, hb⟩
    have HB := Aside0.mk hb
    clear hb
    go_wp2_with fail
    go_ret2
    exact ⟨rfl, ((Below.refl _ w).alloc (Nat.le_refl _) _).trans (HB.out.mono (by simp))⟩
def CoreCells (h cl pa bo q wi gr ke mt ne pt tr self : Int) (t s m e : Value) : Array Value :=
  #[.int .i64 h, .int .i64 cl, .int .i64 pa, .int .i64 bo, .int .i64 q, .int .i64 wi, .int .i64 gr, .int .i64 ke, .int .i64 mt, .int .i64 ne, .int .i64 pt, .int .i64 tr, .int .u8 self, t, s, m, .int .i64 pa, .int .i64 bo, e]
/-- A core that is new: host self of H. -/
def CoreAt (W : World) (h cl pa bo q wi gr ke mt ne pt tr self : Int) (H B : Nat) : Prop :=
  ∃ Bt Bs Bm Be base baseT, W.heap[B]? = some (.cells (CoreCells h cl pa bo q wi gr ke mt ne pt tr self (.pointer (some ⟨Bt, 0, none⟩)) (.pointer (some ⟨Bs, 0, none⟩)) (.pointer (some ⟨Bm, 0, none⟩)) (.pointer (some ⟨Be, 0, none⟩))) 59 (0, 0)) ∧
    TableAt W baseT Bt 8192 [⟨0, 18446744073709551615, 0⟩] ∧ ShelfNew W Bs ∧ MapNew W Bm 51 137 ∧ EndAt W base self q wi H Be

theorem rangesNew' (w : World) : Calls Tryz.prog 27 #[.int .u8 0, .int .i64 8192] w fun e w' =>
    ∃ B, e = .returned (.tuple #[.pointer (some ⟨B, 0, none⟩), .int .i64 0]) ∧ TableAt w' w.heap.size B 8192 [⟨0, 18446744073709551615, 0⟩] ∧ Below w.heap.size w w' := by
  refine (rangesNew w).mono ?_
  rintro e w' ⟨rfl, rfl⟩
  have hh : ((w.alloc (.cells #[.int .u64 0, .int .u64 18446744073709551615, .int .u8 0] 52)).alloc (.cells #[.int .i64 8192, .slice (some ⟨w.heap.size, 0, none⟩) 1 1] 141)).heap[w.heap.size]? = some (.cells #[.int .u64 0, .int .u64 18446744073709551615, .int .u8 0] 52 (0, 0)) :=
    (Below.heap_alloc _ _ _ (by simp)).trans (heap_new w _)
  refine ⟨_, rfl, ⟨_, ?_, fun _ _ => trivial, _, ⟨?_, .inr ⟨w.heap.size, 1, _, rfl, Nat.le_refl _, hh, by simp, by simp [maxLen], by rfl, rfl⟩⟩, ?_, ?_⟩, (((Below.refl _ w).alloc (Nat.le_refl _) _).alloc (by simp) _)⟩
  · have := heap_new (w.alloc (.cells #[.int .u64 0, .int .u64 18446744073709551615, .int .u8 0] 52)) (.cells #[.int .i64 8192, .slice (some ⟨w.heap.size, 0, none⟩) 1 1] 141)
    rw [World.size_alloc] at this
    exact this
  · rfl
  · rfl
  · intro j p hj
    match j, hj with
    | 0, hj =>
      obtain rfl : (⟨0, 18446744073709551615, 0⟩ : S52) = p := by simpa using hj
      exact k52_mkM _ _ _ ⟨0, 18446744073709551615, 0⟩

theorem newShelf' (w : World) : Calls Tryz.prog 28 #[.int .i64 32768] w fun e w' =>
    ∃ B, e = .returned (.tuple #[.pointer (some ⟨B, 0, none⟩), .int .i64 0]) ∧ ShelfNew w' B ∧ Below w.heap.size w w' := by
  refine (newShelf w).mono ?_
  rintro e w' ⟨rfl, rfl⟩
  refine ⟨_, rfl, ⟨w.heap.size, ?_, (Below.heap_alloc _ _ _ (by simp)).trans (heap_new w _)⟩, (((Below.refl _ w).alloc (Nat.le_refl _) _).alloc (by simp) _)⟩
  have := heap_new (w.alloc (.cells #[.func (.func 77) #[] #[], .pointer none] 195)) (.cells #[.pointer (some ⟨w.heap.size, 0, none⟩), .int .i64 32768, .int .i64 0] 125)
  rw [World.size_alloc] at this
  exact this

set_option maxHeartbeats 2000000 in
set_option maxRecDepth 100000 in
theorem coreNew_good (h cl pa bo q wi gr ke mt ne pt tr self : Int) (H : Nat) (w : World) (s0 : 0 ≤ self) (s1 : self < h) (hH : h = (H : Int)) (hg : Good h cl pa bo q wi gr ke mt ne pt tr) :
    Calls Tryz.prog 9 #[.agg #[.int .i64 h, .int .i64 cl, .int .i64 pa, .int .i64 bo, .int .i64 q, .int .i64 wi, .int .i64 gr, .int .i64 ke, .int .i64 mt, .int .i64 ne, .int .i64 pt, .int .i64 tr], .int .u8 self] w fun e w' =>
      ∃ B, e = .returned (.tuple #[.pointer (some ⟨B, 0, none⟩), .int .i64 0]) ∧ CoreAt w' h cl pa bo q wi gr ke mt ne pt tr self H B ∧ Below w.heap.size w w' := by
  have hu := Tryz.underlying48
  have hu2 := Tryz.underlying59
  have C1 := Aside0.mk (fun w => checkCfg h cl pa bo q wi gr ke mt ne pt tr w)
  rw [if_pos hg] at C1
  have hA : (1 ≤ h ∧ h ≤ 16) ∧ (1 ≤ q ∧ q ≤ 16) ∧ (1 ≤ wi ∧ wi ≤ q) := ⟨hg.1.1, hg.2.1.1, hg.2.1.2.1⟩
  clear hg
  obtain ⟨⟨h1, h2⟩, ⟨q1, q2⟩, w1, w2⟩ := hA
  have C2 := Aside0.mk (fun w => xonceNew self H q wi w (by omega) (by omega) s0 (by omega) q1 q2 w1 w2)
  have HH := Aside0.mk hH
  clear hH
  go_enter Tryz.func9, Tryz.ntmps9
  go_wp2_with fail
  refine (C1.out _).mono ?_
  rintro e w1 ⟨rfl, hb⟩
  have hcb := (hb.block w.heap.size (by simp)).trans (heap_new w _)
  have hc : ∀ j, w1.cell? ⟨w.heap.size, j, none⟩ = _ := fun j => cell_at hcb j
  have c0 := hc 0
  have c1 := hc 1
  have c2 := hc 2
  have c3 := hc 3
  have c4 := hc 4
  have c5 := hc 5
  have c6 := hc 6
  have c7 := hc 7
  have c8 := hc 8
  have c9 := hc 9
  have c10 := hc 10
  have c11 := hc 11
  simp only [List.getElem?_toArray, List.getElem?_cons_zero, List.getElem?_cons_succ] at c0 c1 c2 c3 c4 c5 c6 c7 c8 c9 c10 c11
  have HCB := Aside0.mk hcb
  have HB := Aside0.mk hb
  clear hb hcb hc
  go_wp2_with fail
  have hz := HB.out.size
  simp only [World.size_alloc] at hz
  go_region_held3 (fun w' => w'.cell? ⟨w.heap.size, 0, none⟩ = some (.int .i64 h) ∧ w'.cell? ⟨w.heap.size, 1, none⟩ = some (.int .i64 cl) ∧ w'.cell? ⟨w.heap.size, 2, none⟩ = some (.int .i64 pa) ∧ w'.cell? ⟨w.heap.size, 3, none⟩ = some (.int .i64 bo) ∧ w'.cell? ⟨w.heap.size, 4, none⟩ = some (.int .i64 q) ∧ w'.cell? ⟨w.heap.size, 5, none⟩ = some (.int .i64 wi) ∧ w'.cell? ⟨w.heap.size, 6, none⟩ = some (.int .i64 gr) ∧ w'.cell? ⟨w.heap.size, 7, none⟩ = some (.int .i64 ke) ∧ w'.cell? ⟨w.heap.size, 8, none⟩ = some (.int .i64 mt) ∧ w'.cell? ⟨w.heap.size, 9, none⟩ = some (.int .i64 ne) ∧ w'.cell? ⟨w.heap.size, 10, none⟩ = some (.int .i64 pt) ∧ w'.cell? ⟨w.heap.size, 11, none⟩ = some (.int .i64 tr)) (first | exact ⟨c0, c1, c2, c3, c4, c5, c6, c7, c8, c9, c10, c11⟩ | go_keep)
    (first | (go_at_call 26; refine (newOrdA _).mono ?_; rintro e w' ⟨rfl, rfl⟩))
  go_wp2_with fail
  refine calls_any (fun W hW => ?_)
  have hK0 : W.heap[w1.heap.size + 1]? = some (.cells (CoreCells h cl pa bo q wi gr ke mt ne pt tr self (.pointer none) (.pointer none) (.pointer (some ⟨w1.heap.size, 0, none⟩)) (.pointer none)) 59 (0, 0)) := by
    have h0 := heap_new (w1.alloc (.cells #[.func (.func 51) #[] #[], .pointer none] 137)) (.cells #[.int .i64 h, .int .i64 cl, .int .i64 pa, .int .i64 bo, .int .i64 q, .int .i64 wi, .int .i64 gr, .int .i64 ke, .int .i64 mt, .int .i64 ne, .int .i64 pt, .int .i64 tr, .int .u8 self, .pointer none, .pointer none, .pointer (some ⟨w1.heap.size, 0, none⟩), .int .i64 pa, .int .i64 bo, .pointer none] 59)
    rw [World.size_alloc] at h0
    rw [hW]
    exact h0
  have hM0 : MapNew W w1.heap.size 51 137 := by
    rw [hW]
    exact (Below.heap_alloc _ _ _ (by simp)).trans (heap_new w1 _)
  have hB0 : Below w.heap.size w W := by
    rw [hW]
    exact (((((Below.refl _ w).alloc (Nat.le_refl _) _).trans (HB.out.mono (by simp))).alloc (by omega) _).alloc (by simp; omega) _).drew
  have hC0 : W.heap[w.heap.size]? = some (.cells #[.int .i64 h, .int .i64 cl, .int .i64 pa, .int .i64 bo, .int .i64 q, .int .i64 wi, .int .i64 gr, .int .i64 ke, .int .i64 mt, .int .i64 ne, .int .i64 pt, .int .i64 tr] 48 (0, 0)) := by
    rw [hW]
    exact (Below.heap_alloc _ _ _ (by simp; omega)).trans ((Below.heap_alloc _ _ _ (by omega)).trans HCB.out)
  have HC := Aside0.mk hC0
  have HK := Aside0.mk hK0
  have HM := Aside0.mk hM0
  have HBW := Aside0.mk hB0
  clear hK0 hM0 hB0 hC0 hW HB HCB c0 c1 c2 c3 c4 c5 c6 c7 c8 c9 c10 c11
  refine (rangesNew' _).mono ?_
  rintro e w2 ⟨Bt, rfl, hT, hb⟩
  have HT := Aside0.mk hT
  have HB2 := Aside0.mk hb
  have hK2 := (hb.block _ (Array.getElem?_eq_some_iff.1 HK.out).1).trans HK.out
  have HK2 := Aside0.mk hK2
  have hcell : w2.cell? ⟨w1.heap.size + 1, 13, none⟩ = some (.pointer none) := cell_at hK2 13
  have hfz := frozen_at hK2 13
  have hBc := HBW.out.size
  clear hT hb hK2
  go_wp2_with fail
  refine calls_any (fun W3 hW => ?_)
  have hK3 : W3.heap[w1.heap.size + 1]? = some (.cells (CoreCells h cl pa bo q wi gr ke mt ne pt tr self (.pointer (some ⟨Bt, 0, none⟩)) (.pointer none) (.pointer (some ⟨w1.heap.size, 0, none⟩)) (.pointer none)) 59 (0, 0)) := by
    rw [hW]; exact heap_setCell_same w2 (w1.heap.size + 1) 13 _ _ _ HK2.out
  have hm3 : Moves 59 W W3 := (Moves.below HB2.out).trans (by rw [hW]; exact Moves.set HK2.out 13 _)
  have hm3' : Moves 59 w2 W3 := by rw [hW]; exact Moves.set HK2.out 13 _
  have HC3 := Aside0.mk ((hm3 _ _ _ HC.out (by decide)).trans HC.out)
  have HM3 := Aside0.mk (HM.out.move hm3 (by decide))
  have HT3 := Aside0.mk (HT.out.move hm3' (by decide) (by decide))
  have HBW3 : Aside0 (Below w.heap.size w W3) := ⟨by rw [hW]; exact (HBW.out.trans (HB2.out.mono hBc)).setCell (p := ⟨w1.heap.size + 1, 13, none⟩) (by show w.heap.size ≤ w1.heap.size + 1; omega) _⟩
  have HK3 := Aside0.mk hK3
  clear hK3 hm3 hm3' hW HC HM HT HB2 HK2 HK hcell hfz hBc
  refine (newShelf' _).mono ?_
  rintro e w4 ⟨Bs, rfl, hS, hb⟩
  have HS := Aside0.mk hS
  have HB4 := Aside0.mk hb
  have hK4 := (hb.block _ (Array.getElem?_eq_some_iff.1 HK3.out).1).trans HK3.out
  have HK4 := Aside0.mk hK4
  have hcell : w4.cell? ⟨w1.heap.size + 1, 14, none⟩ = some (.pointer none) := cell_at hK4 14
  have hfz := frozen_at hK4 14
  have hBc := HBW3.out.size
  have hC4 := (hb.block _ (Array.getElem?_eq_some_iff.1 HC3.out).1).trans HC3.out
  have e0 : w4.cell? ⟨w.heap.size, 0, none⟩ = some (.int .i64 h) := cell_at hC4 0
  have e4 : w4.cell? ⟨w.heap.size, 4, none⟩ = some (.int .i64 q) := cell_at hC4 4
  have e5 : w4.cell? ⟨w.heap.size, 5, none⟩ = some (.int .i64 wi) := cell_at hC4 5
  have hne : w1.heap.size + 1 ≠ w.heap.size := by omega
  have hne' : w.heap.size ≠ w1.heap.size + 1 := by omega
  clear hS hb hK4 hC4
  go_wp2_with fail
  refine calls_any (fun W5 hW => ?_)
  have hK5 : W5.heap[w1.heap.size + 1]? = some (.cells (CoreCells h cl pa bo q wi gr ke mt ne pt tr self (.pointer (some ⟨Bt, 0, none⟩)) (.pointer (some ⟨Bs, 0, none⟩)) (.pointer (some ⟨w1.heap.size, 0, none⟩)) (.pointer none)) 59 (0, 0)) := by
    rw [hW]; exact heap_setCell_same w4 (w1.heap.size + 1) 14 _ _ _ HK4.out
  have hm5' : Moves 59 w4 W5 := by rw [hW]; exact Moves.set HK4.out 14 _
  have hm5 : Moves 59 W3 W5 := (Moves.below HB4.out).trans hm5'
  have HM5 := Aside0.mk (HM3.out.move hm5 (by decide))
  have HT5 := Aside0.mk (HT3.out.move hm5 (by decide) (by decide))
  have HS5 := Aside0.mk (HS.out.move hm5' (by decide) (by decide))
  have HBW5 : Aside0 (Below w.heap.size w W5) := ⟨by rw [hW]; exact (HBW3.out.trans (HB4.out.mono hBc)).setCell (p := ⟨w1.heap.size + 1, 14, none⟩) (by show w.heap.size ≤ w1.heap.size + 1; omega) _⟩
  have HK5 := Aside0.mk hK5
  clear hK5 hm5 hm5' hW HM3 HT3 HS HB4 HK4 HK3 hcell hfz hBc
  clear e0 e4 e5 hne hne'
  rw [HH.out]
  refine (C2.out _).mono ?_
  rintro e w6 ⟨Be, rfl, hE, hb⟩
  have HE := Aside0.mk hE
  have HB6 := Aside0.mk hb
  have hK6 := (hb.block _ (Array.getElem?_eq_some_iff.1 HK5.out).1).trans HK5.out
  have HK6 := Aside0.mk hK6
  have hcell : w6.cell? ⟨w1.heap.size + 1, 18, none⟩ = some (.pointer none) := cell_at hK6 18
  have hfz := frozen_at hK6 18
  have hBc := HBW5.out.size
  clear hE hb hK6
  go_wp2_with fail
  go_ret2
  have hm7' : Moves 59 w6 (w6.setCell ⟨w1.heap.size + 1, 18, none⟩ (.pointer (some ⟨Be, 0, none⟩))) := Moves.set HK6.out 18 _
  have hm7 : Moves 59 W5 (w6.setCell ⟨w1.heap.size + 1, 18, none⟩ (.pointer (some ⟨Be, 0, none⟩))) := (Moves.below HB6.out).trans hm7'
  exact ⟨_, rfl, ⟨Bt, Bs, w1.heap.size, Be, _, _, heap_setCell_same w6 (w1.heap.size + 1) 18 _ _ _ HK6.out, HT5.out.move hm7 (by decide) (by decide), HS5.out.move hm7 (by decide) (by decide), HM5.out.move hm7 (by decide), HE.out.move hm7' (by decide) (by decide) (by decide)⟩,
    (HBW5.out.trans (HB6.out.mono hBc)).setCell (p := ⟨w1.heap.size + 1, 18, none⟩) (by show w.heap.size ≤ w1.heap.size + 1; omega) _⟩
end Go.Proofs.YtcpcllfmepfjgaaGreatDoor.core
