/- Contracts of functions that the law reaches: lines of the kit's printer for this claim, some said otherwise (wip/ownprint.py tells which). -/
import Derived.Test.YtcpcllfmepfjgaaGreatDoorPCoreNilx0
import Derived.Test.YtcpcllfmepfjgaaGreatDoorQCoreNilx4
import Derived.Test.YtcpcllfmepfjgaaGreatDoorQCoreNilx5
namespace Go.Proofs.YtcpcllfmepfjgaaGreatDoor.PCoreNil
open Go.RowKit Go.Proofs.YtcpcllfmepfjgaaGreatDoorW.PrintWords Go.Proofs.YtcpcllfmepfjgaaGreatDoorW.PrintLast Go.Proofs.YtcpcllfmepfjgaaGreatDoorW.PrintMore
attribute [local go_sem] max2_int min2_int max_two min_two max_three min_three max_four min_four   -- for this text's walks alone
set_option linter.unusedVariables false
set_option linter.unusedSimpArgs false

/-! ### shardref10_SameEnd: function 24 -/
mutual
def shardref10_SameEnd.l0 : Nat → Int → List (S120) → List (S120) → Option (Bool)
  | 0, _, _, _ => none
  | k + 1, x5, x164000, x165000 => if x5 < (x164000.length : Int) then (if 0 ≤ x5 then (if x5 < (x165000.length : Int) then (if ((rd_T120 x164000 x5).f0) = ((rd_T120 x165000 x5).f0) then (if ((rd_T120 x164000 x5).f1) = ((rd_T120 x165000 x5).f1) then (if ((rd_T120 x164000 x5).f3) = ((rd_T120 x165000 x5).f3) then (shardref10_SameEnd.j1 k x5 (((rd_T120 x164000 x5).f4) != ((rd_T120 x165000 x5).f4)) x164000 x165000 ((rd_T120 x164000 x5).f0) ((rd_T120 x164000 x5).f1) ((rd_T120 x164000 x5).f2) ((rd_T120 x164000 x5).f3) ((rd_T120 x164000 x5).f4) ((rd_T120 x164000 x5).f5) ((rd_T120 x165000 x5).f0) ((rd_T120 x165000 x5).f1) ((rd_T120 x165000 x5).f2) ((rd_T120 x165000 x5).f3) ((rd_T120 x165000 x5).f4) ((rd_T120 x165000 x5).f5)) else (shardref10_SameEnd.j1 k x5 true x164000 x165000 ((rd_T120 x164000 x5).f0) ((rd_T120 x164000 x5).f1) ((rd_T120 x164000 x5).f2) ((rd_T120 x164000 x5).f3) ((rd_T120 x164000 x5).f4) ((rd_T120 x164000 x5).f5) ((rd_T120 x165000 x5).f0) ((rd_T120 x165000 x5).f1) ((rd_T120 x165000 x5).f2) ((rd_T120 x165000 x5).f3) ((rd_T120 x165000 x5).f4) ((rd_T120 x165000 x5).f5))) else (shardref10_SameEnd.j1 k x5 true x164000 x165000 ((rd_T120 x164000 x5).f0) ((rd_T120 x164000 x5).f1) ((rd_T120 x164000 x5).f2) ((rd_T120 x164000 x5).f3) ((rd_T120 x164000 x5).f4) ((rd_T120 x164000 x5).f5) ((rd_T120 x165000 x5).f0) ((rd_T120 x165000 x5).f1) ((rd_T120 x165000 x5).f2) ((rd_T120 x165000 x5).f3) ((rd_T120 x165000 x5).f4) ((rd_T120 x165000 x5).f5))) else (shardref10_SameEnd.j1 k x5 true x164000 x165000 ((rd_T120 x164000 x5).f0) ((rd_T120 x164000 x5).f1) ((rd_T120 x164000 x5).f2) ((rd_T120 x164000 x5).f3) ((rd_T120 x164000 x5).f4) ((rd_T120 x164000 x5).f5) ((rd_T120 x165000 x5).f0) ((rd_T120 x165000 x5).f1) ((rd_T120 x165000 x5).f2) ((rd_T120 x165000 x5).f3) ((rd_T120 x165000 x5).f4) ((rd_T120 x165000 x5).f5))) else (none)) else (none)) else (some true)
def shardref10_SameEnd.j1 : Nat → Int → Bool → List (S120) → List (S120) → Int → Int → List (List Int) → Int → Int → List (S190) → Int → Int → List (List Int) → Int → Int → List (S190) → Option (Bool)
  | 0, _, _, _, _, _, _, _, _, _, _, _, _, _, _, _, _ => none
  | k + 1, x5, x59, x164000, x165000, x167000, x167001, x167002, x167003, x167004, x167005, x169000, x169001, x169002, x169003, x169004, x169005 => if x59 = true then (some false) else ((shardref10_sameLists.f k x167002 x169002).bind fun t169 => ((shardref10_sameFrames.f k x167005 x169005).bind fun t170 => (if t169 = true then (if t170 = true then (shardref10_SameEnd.l0 k (wrap64 (x5 + 1)) x164000 x165000) else (some false)) else (some false))))
end
def shardref10_SameEnd.f (k : Nat) (l0_0 : List (S120)) (l1_0 : List (S120)) : Option (Bool) := if (l0_0.length : Int) = (l1_0.length : Int) then (shardref10_SameEnd.l0 k 0 l0_0 l1_0) else (some false)
theorem shardref10_SameEnd.mono_l : ∀ k, (∀ y0 y1 y2, LeO (shardref10_SameEnd.l0 k y0 y1 y2) (shardref10_SameEnd.l0 (k + 1) y0 y1 y2)) ∧ (∀ y0 y1 y2 y3 y4 y5 y6 y7 y8 y9 y10 y11 y12 y13 y14 y15, LeO (shardref10_SameEnd.j1 k y0 y1 y2 y3 y4 y5 y6 y7 y8 y9 y10 y11 y12 y13 y14 y15) (shardref10_SameEnd.j1 (k + 1) y0 y1 y2 y3 y4 y5 y6 y7 y8 y9 y10 y11 y12 y13 y14 y15))
  | 0 => ⟨fun _ _ _ r h => by simp [shardref10_SameEnd.l0] at h, fun _ _ _ _ _ _ _ _ _ _ _ _ _ _ _ _ r h => by simp [shardref10_SameEnd.j1] at h⟩
  | k + 1 => by
    obtain ⟨ih0, ih1⟩ := shardref10_SameEnd.mono_l k
    refine ⟨?_, ?_⟩
    · intro y0 y1 y2
      unfold shardref10_SameEnd.l0
      repeat' first
      | (with_reducible exact ih0 _ _ _)
      | (with_reducible exact ih1 _ _ _ _ _ _ _ _ _ _ _ _ _ _ _ _)
      | (with_reducible exact shardref10_sameFrames.mono _ _ _)
      | (with_reducible exact shardref10_sameLists.mono _ _ _)
      | (with_reducible exact LeO.refl _)
      | (with_reducible exact LeO.none _)
      | (with_reducible refine LeO.ite ?_ ?_)
      | (with_reducible refine LeO.bind ?_ (fun _ => ?_))
      | exact ih0 _ _ _
      | exact ih1 _ _ _ _ _ _ _ _ _ _ _ _ _ _ _ _
      | exact shardref10_sameFrames.mono _ _ _
      | exact shardref10_sameLists.mono _ _ _
      | exact LeO.none _
      | refine LeO.ite ?_ ?_
      | refine LeO.bind ?_ (fun _ => ?_)
    · intro y0 y1 y2 y3 y4 y5 y6 y7 y8 y9 y10 y11 y12 y13 y14 y15
      unfold shardref10_SameEnd.j1
      repeat' first
      | (with_reducible exact ih0 _ _ _)
      | (with_reducible exact ih1 _ _ _ _ _ _ _ _ _ _ _ _ _ _ _ _)
      | (with_reducible exact shardref10_sameFrames.mono _ _ _)
      | (with_reducible exact shardref10_sameLists.mono _ _ _)
      | (with_reducible exact LeO.refl _)
      | (with_reducible exact LeO.none _)
      | (with_reducible refine LeO.ite ?_ ?_)
      | (with_reducible refine LeO.bind ?_ (fun _ => ?_))
      | exact ih0 _ _ _
      | exact ih1 _ _ _ _ _ _ _ _ _ _ _ _ _ _ _ _
      | exact shardref10_sameFrames.mono _ _ _
      | exact shardref10_sameLists.mono _ _ _
      | exact LeO.none _
      | refine LeO.ite ?_ ?_
      | refine LeO.bind ?_ (fun _ => ?_)
theorem shardref10_SameEnd.mono : ∀ a0 a1 k, LeO (shardref10_SameEnd.f k a0 a1) (shardref10_SameEnd.f (k + 1) a0 a1) := by
  intro a0 a1 k
  obtain ⟨ih0, ih1⟩ := shardref10_SameEnd.mono_l k
  unfold shardref10_SameEnd.f
  repeat' first
      | (with_reducible exact ih0 _ _ _)
      | (with_reducible exact ih1 _ _ _ _ _ _ _ _ _ _ _ _ _ _ _ _)
      | (with_reducible exact shardref10_sameFrames.mono _ _ _)
      | (with_reducible exact shardref10_sameLists.mono _ _ _)
      | (with_reducible exact LeO.refl _)
      | (with_reducible exact LeO.none _)
      | (with_reducible refine LeO.ite ?_ ?_)
      | (with_reducible refine LeO.bind ?_ (fun _ => ?_))
      | exact ih0 _ _ _
      | exact ih1 _ _ _ _ _ _ _ _ _ _ _ _ _ _ _ _
      | exact shardref10_sameFrames.mono _ _ _
      | exact shardref10_sameLists.mono _ _ _
      | exact LeO.none _
      | refine LeO.ite ?_ ?_
      | refine LeO.bind ?_ (fun _ => ?_)
set_option maxHeartbeats 8000000 in
set_option maxRecDepth 100000 in
theorem shardref10_SameEnd.calls (k : Nat) (A0_0 : Option Addr) (c0_0 : Nat) (l0_0 : List (S120)) (A1_0 : Option Addr) (c1_0 : Nat) (l1_0 : List (S120)) (r : Bool) (w : World) (hr0_0 : Kd.C k120 w A0_0 l0_0.length l0_0) (hc0_0 : l0_0.length ≤ c0_0) (hr1_0 : Kd.C k120 w A1_0 l1_0.length l1_0) (hc1_0 : l1_0.length ≤ c1_0) (h : shardref10_SameEnd.f k l0_0 l1_0 = some r) :
    Calls Tryz.prog 24 #[.agg #[.slice A0_0 l0_0.length c0_0], .agg #[.slice A1_0 l1_0.length c1_0]] w fun e w' => e = .returned (.bool r) ∧ Below w.heap.size w w' := by
  have hu41 := Tryz.underlying41
  have hu120 := Tryz.underlying120
  have HR0_0 := Aside0.mk hr0_0
  have HC0_0 := Aside0.mk hc0_0
  clear hr0_0 hc0_0
  have HR1_0 := Aside0.mk hr1_0
  have HC1_0 := Aside0.mk hc1_0
  clear hr1_0 hc1_0
  have HB := Aside0.mk (Below.refl w.heap.size w)
  have H : (if (l0_0.length : Int) = (l1_0.length : Int) then (shardref10_SameEnd.l0 k 0 l0_0 l1_0) else (some false)) = some r := h
  clear h
  by_cases c3 : (l0_0.length : Int) = (l1_0.length : Int)
  · rw [if_pos c3] at H
    have c3b0 : ((l0_0.length : Int) == (l1_0.length : Int)) = true := beq_iff_eq.mpr c3
    have c3b1 : ((l0_0.length : Int) != (l1_0.length : Int)) = false := bne_eq_false_iff_eq.mpr c3
    have c3b2 : (l0_0.length == l1_0.length) = true := by first | simpa using c3 | (simp at c3 ⊢; omega)
    clear c3
    have H' := Aside0.mk H
    clear H
    go_enter Tryz.func24, Tryz.ntmps24
    go_wp2_with (first | ((with_reducible refine gate_dst (N := 2) rfl ?_); refine box_event ?hg (N := 2) ?hd (cs := #[.slice A0_0 l0_0.length c0_0]) (t := 41) ?hr ?_; (case hd => rfl); (case hg => rfl); (case hr => first | (go_simp; done) | (go_simp; rfl)); intro gb163 hg w4 hbox hb; have n0_ := Aside0.mk (below_step (by repeat (first | (with_reducible first | exact HB.out | apply below_alloc | apply pw_below_drewN | apply below_drew1) | exact HB.out)) hb); have n1_ := Aside0.mk (hbox); have n2_ := Aside0.mk ((by rw [hg]; exact (below_size (by repeat (first | (with_reducible first | exact HB.out | apply below_alloc | apply pw_below_drewN | apply below_drew1) | exact HB.out))) : w.heap.size ≤ gb163)); have n3_ := Aside0.mk ((by rw [hg]; exact (below_size (by repeat (first | (with_reducible first | exact HB.out | apply below_alloc | apply pw_below_drewN | apply below_drew1) | exact HB.out))) : w.heap.size ≤ gb163)); clear HB; have HB := n0_; have BK163 := n1_; have GW163 := n2_; have GE163 := n3_; clear n0_ n1_ n2_ n3_; clear hb hbox hg) | ((with_reducible refine gate_dst (N := 3) rfl ?_); refine box_event ?hg (N := 3) ?hd (cs := #[.slice A1_0 l1_0.length c1_0]) (t := 41) ?hr ?_; (case hd => rfl); (case hg => rfl); (case hr => first | (go_simp; done) | (go_simp; rfl)); intro gb164 hg w5 hbox hb; have n0_ := Aside0.mk (blk_below (g := gb163) (o := .cells #[.slice A0_0 l0_0.length c0_0] 41 (0, 0)) (by (with_reducible repeat (first | refine blk_drewN ?_ _ | refine blk_drew ?_ | refine blk_alloc ?_ _)); exact BK163.out) hb); have n1_ := Aside0.mk (below_step (by repeat (first | (with_reducible first | exact HB.out | apply below_alloc | apply pw_below_drewN | apply below_drew1 | refine below_set ?_ GE163.out) | exact HB.out)) hb); have n2_ := Aside0.mk (hbox); have n3_ := Aside0.mk ((by rw [hg]; exact (below_size (by repeat (first | (with_reducible first | exact HB.out | apply below_alloc | apply pw_below_drewN | apply below_drew1 | refine below_set ?_ GE163.out) | exact HB.out))) : w.heap.size ≤ gb164)); have n4_ := Aside0.mk ((by rw [hg]; exact (below_size (by repeat (first | (with_reducible first | exact HB.out | apply below_alloc | apply pw_below_drewN | apply below_drew1 | refine below_set ?_ GE163.out) | exact HB.out))) : w.heap.size ≤ gb164)); have n5_ := Aside0.mk ((by rw [hg]; exact Nat.ne_of_lt (blk_lt (g := gb163) (o := .cells #[.slice A0_0 l0_0.length c0_0] 41 (0, 0)) (by (with_reducible repeat (first | refine blk_drewN ?_ _ | refine blk_drew ?_ | refine blk_alloc ?_ _)); exact BK163.out)) : gb163 ≠ gb164)); have n6_ := Aside0.mk ((by rw [hg]; exact Nat.ne_of_gt (blk_lt (g := gb163) (o := .cells #[.slice A0_0 l0_0.length c0_0] 41 (0, 0)) (by (with_reducible repeat (first | refine blk_drewN ?_ _ | refine blk_drew ?_ | refine blk_alloc ?_ _)); exact BK163.out)) : gb164 ≠ gb163)); clear BK163; clear HB; have BK163 := n0_; have HB := n1_; have BK164 := n2_; have GW164 := n3_; have GE164 := n4_; have NB163_164 := n5_; have NB164_163 := n6_; clear n0_ n1_ n2_ n3_ n4_ n5_ n6_; clear hb hbox hg; have hnb6 := NB163_164.out; have hnc6 := NB164_163.out; have hcz7_0 : w5.cell? ⟨gb163, 0, none⟩ = some (.slice A0_0 l0_0.length c0_0) := (blk_cell BK163.out 0).trans rfl; have hfz7_0 := blk_frozen BK163.out 0; have hcz8_0 : w5.cell? ⟨gb164, 0, none⟩ = some (.slice A1_0 l1_0.length c1_0) := (blk_cell BK164.out 0).trans rfl; have hfz8_0 := blk_frozen BK164.out 0))
    go_loopg [5] k (fun kq v5 w' => ∃ (x5_1 : Int), v5 = .int .i64 x5_1 ∧ Aside0 (shardref10_SameEnd.l0 kq x5_1 l0_0 l1_0 = some r) ∧ Aside0 (kq ≤ k) ∧ Aside0 (w'.heap[gb163]? = some (.cells #[(.slice A0_0 l0_0.length c0_0)] 41 (0, 0))) ∧ Aside0 (w'.heap[gb164]? = some (.cells #[(.slice A1_0 l1_0.length c1_0)] 41 (0, 0))) ∧ Aside0 (Below w.heap.size w w'))
    case atStart => exact ⟨(0), (by first | rfl | (simp; done) | (simp [*]; done)), H', ⟨Nat.le_refl _⟩, ⟨by (with_reducible repeat (first | refine blk_drewN ?_ _ | refine blk_drew ?_ | refine blk_alloc ?_ _)); exact BK163.out⟩, ⟨by (with_reducible repeat (first | refine blk_drewN ?_ _ | refine blk_drew ?_ | refine blk_alloc ?_ _)); exact BK164.out⟩, ⟨by repeat (first | (with_reducible first | exact HB.out | apply below_alloc | apply pw_below_drewN | apply below_drew1 | refine below_set ?_ GE163.out | refine below_set ?_ GE164.out) | exact HB.out)⟩⟩
    case round =>
      clear H'
      try clear c1
      try clear c2
      try clear p2
      try clear c3
      try clear c3b0
      try clear c3b1
      try clear c3b2
      try clear c6
      try clear hcz7_0
      try clear hcz8_0
      try clear hfz7_0
      try clear hfz8_0
      obtain ⟨x5_1, rfl, HA, HK1, BK163, BK164, HB⟩ := hrel
      cases gk with
      | zero => exact absurd HA.out (by simp [shardref10_SameEnd.l0])
      | succ k1 =>
        have H := HA.out
        clear HA
        simp only [shardref10_SameEnd.l0] at H
        by_cases c9 : x5_1 < (l0_0.length : Int)
        · rw [if_pos c9] at H
          have c9b0 : decide (x5_1 < (l0_0.length : Int)) = true := decide_eq_true c9
          clear c9
          by_cases c10 : 0 ≤ x5_1
          · rw [if_pos c10] at H
            have c10b0 : decide (0 ≤ x5_1) = true := decide_eq_true c10
            clear c10
            by_cases c11 : x5_1 < (l1_0.length : Int)
            · rw [if_pos c11] at H
              have c11b0 : decide (x5_1 < (l1_0.length : Int)) = true := decide_eq_true c11
              clear c11
              have HC12 := Aside0.mk H
              clear H
              have hnb13 := NB163_164.out
              have hnc13 := NB164_163.out
              have hcz14_0 : wr.cell? ⟨gb163, 0, none⟩ = some (.slice A0_0 l0_0.length c0_0) := (blk_cell BK163.out 0).trans rfl
              have hfz14_0 := blk_frozen BK163.out 0
              have p165 : 0 ≤ (x5_1 : Int) := of_decide_eq_true (by first | (with_reducible assumption) | assumption)
              have q165 : x5_1 < (l0_0.length : Int) := of_decide_eq_true (by first | (with_reducible assumption) | assumption)
              obtain ⟨ad165, A165_2, c165_2, A165_5, c165_5, e165, hx165_0, hx165_1, hx165_2, hx165_3, hx165_4, hx165_5, hl165_2, hi165_2, hl165_5, hi165_5⟩ := at_T120 HR0_0.out x5_1 p165 q165
              cases e165
              replace hx165_0 := (HB.out.cell (World.block_lt_of_cell? w _ hx165_0)).trans hx165_0
              replace hx165_1 := (HB.out.cell (World.block_lt_of_cell? w _ hx165_1)).trans hx165_1
              replace hx165_2 := (HB.out.cell (World.block_lt_of_cell? w _ hx165_2)).trans hx165_2
              replace hx165_3 := (HB.out.cell (World.block_lt_of_cell? w _ hx165_3)).trans hx165_3
              replace hx165_4 := (HB.out.cell (World.block_lt_of_cell? w _ hx165_4)).trans hx165_4
              replace hx165_5 := (HB.out.cell (World.block_lt_of_cell? w _ hx165_5)).trans hx165_5
              have HR165_2 := Aside0.mk hi165_2
              have HC165_2 := Aside0.mk hl165_2
              clear hi165_2 hl165_2
              have HR165_5 := Aside0.mk hi165_5
              have HC165_5 := Aside0.mk hl165_5
              clear hi165_5 hl165_5
              replace p165 := eq_true p165
              replace q165 := eq_true q165
              go_upto_region 8 with (first | ((with_reducible refine gate_dst (N := 6) rfl ?_); refine box_event ?hg (N := 6) ?hd (cs := #[.int .u64 0, .int .u64 0, .slice none 0 0, .int .u64 0, .int .u64 0, .slice none 0 0]) (t := 120) ?hr ?_; (case hd => rfl); (case hg => rfl); (case hr => first | (go_simp; done) | (go_simp; rfl)); intro gb166 hg w15 hbox hb; have n0_ := Aside0.mk (blk_below (g := gb163) (o := .cells #[.slice (some ad165) l0_0.length c0_0] 41 (0, 0)) (by (with_reducible repeat (first | refine blk_drewN ?_ _ | refine blk_drew ?_ | refine blk_alloc ?_ _)); exact BK163.out) hb); have n1_ := Aside0.mk (blk_below (g := gb164) (o := .cells #[.slice A1_0 l1_0.length c1_0] 41 (0, 0)) (by (with_reducible repeat (first | refine blk_drewN ?_ _ | refine blk_drew ?_ | refine blk_alloc ?_ _)); exact BK164.out) hb); have n2_ := Aside0.mk (below_step (by repeat (first | (with_reducible first | exact HB.out | apply below_alloc | apply pw_below_drewN | apply below_drew1 | refine below_set ?_ GE163.out | refine below_set ?_ GE164.out) | exact HB.out)) hb); have n3_ := Aside0.mk (hbox); have n4_ := Aside0.mk ((by rw [hg]; exact (below_size (by repeat (first | (with_reducible first | exact HB.out | apply below_alloc | apply pw_below_drewN | apply below_drew1 | refine below_set ?_ GE163.out | refine below_set ?_ GE164.out) | exact HB.out))) : w.heap.size ≤ gb166)); have n5_ := Aside0.mk ((by rw [hg]; exact (below_size (by repeat (first | (with_reducible first | exact HB.out | apply below_alloc | apply pw_below_drewN | apply below_drew1 | refine below_set ?_ GE163.out | refine below_set ?_ GE164.out) | exact HB.out))) : w.heap.size ≤ gb166)); have n6_ := Aside0.mk ((by rw [hg]; exact Nat.ne_of_lt (blk_lt (g := gb163) (o := .cells #[.slice (some ad165) l0_0.length c0_0] 41 (0, 0)) (by (with_reducible repeat (first | refine blk_drewN ?_ _ | refine blk_drew ?_ | refine blk_alloc ?_ _)); exact BK163.out)) : gb163 ≠ gb166)); have n7_ := Aside0.mk ((by rw [hg]; exact Nat.ne_of_gt (blk_lt (g := gb163) (o := .cells #[.slice (some ad165) l0_0.length c0_0] 41 (0, 0)) (by (with_reducible repeat (first | refine blk_drewN ?_ _ | refine blk_drew ?_ | refine blk_alloc ?_ _)); exact BK163.out)) : gb166 ≠ gb163)); have n8_ := Aside0.mk ((by rw [hg]; exact Nat.ne_of_lt (blk_lt (g := gb164) (o := .cells #[.slice A1_0 l1_0.length c1_0] 41 (0, 0)) (by (with_reducible repeat (first | refine blk_drewN ?_ _ | refine blk_drew ?_ | refine blk_alloc ?_ _)); exact BK164.out)) : gb164 ≠ gb166)); have n9_ := Aside0.mk ((by rw [hg]; exact Nat.ne_of_gt (blk_lt (g := gb164) (o := .cells #[.slice A1_0 l1_0.length c1_0] 41 (0, 0)) (by (with_reducible repeat (first | refine blk_drewN ?_ _ | refine blk_drew ?_ | refine blk_alloc ?_ _)); exact BK164.out)) : gb166 ≠ gb164)); clear BK163; clear BK164; clear HB; have BK163 := n0_; have BK164 := n1_; have HB := n2_; have BK166 := n3_; have GW166 := n4_; have GE166 := n5_; have NB163_166 := n6_; have NB166_163 := n7_; have NB164_166 := n8_; have NB166_164 := n9_; clear n0_ n1_ n2_ n3_ n4_ n5_ n6_ n7_ n8_ n9_; clear hb hbox hg; have hnb16 := NB166_163.out; have hnc16 := NB163_166.out; have hnb17 := NB166_164.out; have hnc17 := NB164_166.out; have hcz18_0 : w15.cell? ⟨gb166, 0, none⟩ = some (.int .u64 0) := (blk_cell BK166.out 0).trans rfl; have hcz18_1 : w15.cell? ⟨gb166, 1, none⟩ = some (.int .u64 0) := (blk_cell BK166.out 1).trans rfl; have hcz18_2 : w15.cell? ⟨gb166, 2, none⟩ = some (.slice none 0 0) := (blk_cell BK166.out 2).trans rfl; have hcz18_3 : w15.cell? ⟨gb166, 3, none⟩ = some (.int .u64 0) := (blk_cell BK166.out 3).trans rfl; have hcz18_4 : w15.cell? ⟨gb166, 4, none⟩ = some (.int .u64 0) := (blk_cell BK166.out 4).trans rfl; have hcz18_5 : w15.cell? ⟨gb166, 5, none⟩ = some (.slice none 0 0) := (blk_cell BK166.out 5).trans rfl; have hfz18_0 := blk_frozen BK166.out 0; have hfz18_1 := blk_frozen BK166.out 1; have hfz18_2 := blk_frozen BK166.out 2; have hfz18_3 := blk_frozen BK166.out 3; have hfz18_4 := blk_frozen BK166.out 4; have hfz18_5 := blk_frozen BK166.out 5; have hcz19_0 : w15.cell? ⟨gb164, 0, none⟩ = some (.slice A1_0 l1_0.length c1_0) := (blk_cell BK164.out 0).trans rfl; have hfz19_0 := blk_frozen BK164.out 0; have p167 : 0 ≤ (x5_1 : Int) := of_decide_eq_true (by first | (with_reducible assumption) | assumption); have q167 : x5_1 < (l1_0.length : Int) := of_decide_eq_true (by first | (with_reducible assumption) | assumption); obtain ⟨ad167, A167_2, c167_2, A167_5, c167_5, e167, hx167_0, hx167_1, hx167_2, hx167_3, hx167_4, hx167_5, hl167_2, hi167_2, hl167_5, hi167_5⟩ := at_T120 HR1_0.out x5_1 p167 q167; cases e167; have hn167_0 : ad167.block ≠ gb166 := Nat.ne_of_lt (Nat.lt_of_lt_of_le (by have := World.block_lt_of_cell? _ _ hx167_0; first | rwa [add_block] at this | exact this) GW166.out); have hn167_1 : ad167.block ≠ gb166 := Nat.ne_of_lt (Nat.lt_of_lt_of_le (by have := World.block_lt_of_cell? _ _ hx167_0; first | rwa [add_block] at this | exact this) GW166.out); have hn167_2 : ad167.block ≠ gb166 := Nat.ne_of_lt (Nat.lt_of_lt_of_le (by have := World.block_lt_of_cell? _ _ hx167_0; first | rwa [add_block] at this | exact this) GW166.out); have hn167_3 : ad167.block ≠ gb166 := Nat.ne_of_lt (Nat.lt_of_lt_of_le (by have := World.block_lt_of_cell? _ _ hx167_0; first | rwa [add_block] at this | exact this) GW166.out); have hn167_4 : ad167.block ≠ gb166 := Nat.ne_of_lt (Nat.lt_of_lt_of_le (by have := World.block_lt_of_cell? _ _ hx167_0; first | rwa [add_block] at this | exact this) GW166.out); have hn167_5 : ad167.block ≠ gb166 := Nat.ne_of_lt (Nat.lt_of_lt_of_le (by have := World.block_lt_of_cell? _ _ hx167_0; first | rwa [add_block] at this | exact this) GW166.out); replace hx167_0 := (HB.out.cell (World.block_lt_of_cell? w _ hx167_0)).trans hx167_0; replace hx167_1 := (HB.out.cell (World.block_lt_of_cell? w _ hx167_1)).trans hx167_1; replace hx167_2 := (HB.out.cell (World.block_lt_of_cell? w _ hx167_2)).trans hx167_2; replace hx167_3 := (HB.out.cell (World.block_lt_of_cell? w _ hx167_3)).trans hx167_3; replace hx167_4 := (HB.out.cell (World.block_lt_of_cell? w _ hx167_4)).trans hx167_4; replace hx167_5 := (HB.out.cell (World.block_lt_of_cell? w _ hx167_5)).trans hx167_5; have HR167_2 := Aside0.mk hi167_2; have HC167_2 := Aside0.mk hl167_2; clear hi167_2 hl167_2; have HR167_5 := Aside0.mk hi167_5; have HC167_5 := Aside0.mk hl167_5; clear hi167_5 hl167_5; replace hx167_0 := (cell_far (p := ⟨gb166, 0, none⟩) (by first | (rw [add_block]; exact hn167_0) | (show (Addr.add _ _).block ≠ _; rw [add_block]; exact hn167_0) | exact hn167_0) (.int .u64 ((rd_T120 l0_0 x5_1).f0))).trans hx167_0; replace hx167_1 := (cell_far (p := ⟨gb166, 0, none⟩) (by first | (rw [add_block]; exact hn167_0) | (show (Addr.add _ _).block ≠ _; rw [add_block]; exact hn167_0) | exact hn167_0) (.int .u64 ((rd_T120 l0_0 x5_1).f0))).trans hx167_1; replace hx167_2 := (cell_far (p := ⟨gb166, 0, none⟩) (by first | (rw [add_block]; exact hn167_0) | (show (Addr.add _ _).block ≠ _; rw [add_block]; exact hn167_0) | exact hn167_0) (.int .u64 ((rd_T120 l0_0 x5_1).f0))).trans hx167_2; replace hx167_3 := (cell_far (p := ⟨gb166, 0, none⟩) (by first | (rw [add_block]; exact hn167_0) | (show (Addr.add _ _).block ≠ _; rw [add_block]; exact hn167_0) | exact hn167_0) (.int .u64 ((rd_T120 l0_0 x5_1).f0))).trans hx167_3; replace hx167_4 := (cell_far (p := ⟨gb166, 0, none⟩) (by first | (rw [add_block]; exact hn167_0) | (show (Addr.add _ _).block ≠ _; rw [add_block]; exact hn167_0) | exact hn167_0) (.int .u64 ((rd_T120 l0_0 x5_1).f0))).trans hx167_4; replace hx167_5 := (cell_far (p := ⟨gb166, 0, none⟩) (by first | (rw [add_block]; exact hn167_0) | (show (Addr.add _ _).block ≠ _; rw [add_block]; exact hn167_0) | exact hn167_0) (.int .u64 ((rd_T120 l0_0 x5_1).f0))).trans hx167_5; replace hx167_0 := (cell_far (p := ⟨gb166, 1, none⟩) (by first | (rw [add_block]; exact hn167_1) | (show (Addr.add _ _).block ≠ _; rw [add_block]; exact hn167_1) | exact hn167_1) (.int .u64 ((rd_T120 l0_0 x5_1).f1))).trans hx167_0; replace hx167_1 := (cell_far (p := ⟨gb166, 1, none⟩) (by first | (rw [add_block]; exact hn167_1) | (show (Addr.add _ _).block ≠ _; rw [add_block]; exact hn167_1) | exact hn167_1) (.int .u64 ((rd_T120 l0_0 x5_1).f1))).trans hx167_1; replace hx167_2 := (cell_far (p := ⟨gb166, 1, none⟩) (by first | (rw [add_block]; exact hn167_1) | (show (Addr.add _ _).block ≠ _; rw [add_block]; exact hn167_1) | exact hn167_1) (.int .u64 ((rd_T120 l0_0 x5_1).f1))).trans hx167_2; replace hx167_3 := (cell_far (p := ⟨gb166, 1, none⟩) (by first | (rw [add_block]; exact hn167_1) | (show (Addr.add _ _).block ≠ _; rw [add_block]; exact hn167_1) | exact hn167_1) (.int .u64 ((rd_T120 l0_0 x5_1).f1))).trans hx167_3; replace hx167_4 := (cell_far (p := ⟨gb166, 1, none⟩) (by first | (rw [add_block]; exact hn167_1) | (show (Addr.add _ _).block ≠ _; rw [add_block]; exact hn167_1) | exact hn167_1) (.int .u64 ((rd_T120 l0_0 x5_1).f1))).trans hx167_4; replace hx167_5 := (cell_far (p := ⟨gb166, 1, none⟩) (by first | (rw [add_block]; exact hn167_1) | (show (Addr.add _ _).block ≠ _; rw [add_block]; exact hn167_1) | exact hn167_1) (.int .u64 ((rd_T120 l0_0 x5_1).f1))).trans hx167_5; replace hx167_0 := (cell_far (p := ⟨gb166, 2, none⟩) (by first | (rw [add_block]; exact hn167_2) | (show (Addr.add _ _).block ≠ _; rw [add_block]; exact hn167_2) | exact hn167_2) (.slice A165_2 ((rd_T120 l0_0 x5_1).f2).length c165_2)).trans hx167_0; replace hx167_1 := (cell_far (p := ⟨gb166, 2, none⟩) (by first | (rw [add_block]; exact hn167_2) | (show (Addr.add _ _).block ≠ _; rw [add_block]; exact hn167_2) | exact hn167_2) (.slice A165_2 ((rd_T120 l0_0 x5_1).f2).length c165_2)).trans hx167_1; replace hx167_2 := (cell_far (p := ⟨gb166, 2, none⟩) (by first | (rw [add_block]; exact hn167_2) | (show (Addr.add _ _).block ≠ _; rw [add_block]; exact hn167_2) | exact hn167_2) (.slice A165_2 ((rd_T120 l0_0 x5_1).f2).length c165_2)).trans hx167_2; replace hx167_3 := (cell_far (p := ⟨gb166, 2, none⟩) (by first | (rw [add_block]; exact hn167_2) | (show (Addr.add _ _).block ≠ _; rw [add_block]; exact hn167_2) | exact hn167_2) (.slice A165_2 ((rd_T120 l0_0 x5_1).f2).length c165_2)).trans hx167_3; replace hx167_4 := (cell_far (p := ⟨gb166, 2, none⟩) (by first | (rw [add_block]; exact hn167_2) | (show (Addr.add _ _).block ≠ _; rw [add_block]; exact hn167_2) | exact hn167_2) (.slice A165_2 ((rd_T120 l0_0 x5_1).f2).length c165_2)).trans hx167_4; replace hx167_5 := (cell_far (p := ⟨gb166, 2, none⟩) (by first | (rw [add_block]; exact hn167_2) | (show (Addr.add _ _).block ≠ _; rw [add_block]; exact hn167_2) | exact hn167_2) (.slice A165_2 ((rd_T120 l0_0 x5_1).f2).length c165_2)).trans hx167_5; replace hx167_0 := (cell_far (p := ⟨gb166, 3, none⟩) (by first | (rw [add_block]; exact hn167_3) | (show (Addr.add _ _).block ≠ _; rw [add_block]; exact hn167_3) | exact hn167_3) (.int .u64 ((rd_T120 l0_0 x5_1).f3))).trans hx167_0; replace hx167_1 := (cell_far (p := ⟨gb166, 3, none⟩) (by first | (rw [add_block]; exact hn167_3) | (show (Addr.add _ _).block ≠ _; rw [add_block]; exact hn167_3) | exact hn167_3) (.int .u64 ((rd_T120 l0_0 x5_1).f3))).trans hx167_1; replace hx167_2 := (cell_far (p := ⟨gb166, 3, none⟩) (by first | (rw [add_block]; exact hn167_3) | (show (Addr.add _ _).block ≠ _; rw [add_block]; exact hn167_3) | exact hn167_3) (.int .u64 ((rd_T120 l0_0 x5_1).f3))).trans hx167_2; replace hx167_3 := (cell_far (p := ⟨gb166, 3, none⟩) (by first | (rw [add_block]; exact hn167_3) | (show (Addr.add _ _).block ≠ _; rw [add_block]; exact hn167_3) | exact hn167_3) (.int .u64 ((rd_T120 l0_0 x5_1).f3))).trans hx167_3; replace hx167_4 := (cell_far (p := ⟨gb166, 3, none⟩) (by first | (rw [add_block]; exact hn167_3) | (show (Addr.add _ _).block ≠ _; rw [add_block]; exact hn167_3) | exact hn167_3) (.int .u64 ((rd_T120 l0_0 x5_1).f3))).trans hx167_4; replace hx167_5 := (cell_far (p := ⟨gb166, 3, none⟩) (by first | (rw [add_block]; exact hn167_3) | (show (Addr.add _ _).block ≠ _; rw [add_block]; exact hn167_3) | exact hn167_3) (.int .u64 ((rd_T120 l0_0 x5_1).f3))).trans hx167_5; replace hx167_0 := (cell_far (p := ⟨gb166, 4, none⟩) (by first | (rw [add_block]; exact hn167_4) | (show (Addr.add _ _).block ≠ _; rw [add_block]; exact hn167_4) | exact hn167_4) (.int .u64 ((rd_T120 l0_0 x5_1).f4))).trans hx167_0; replace hx167_1 := (cell_far (p := ⟨gb166, 4, none⟩) (by first | (rw [add_block]; exact hn167_4) | (show (Addr.add _ _).block ≠ _; rw [add_block]; exact hn167_4) | exact hn167_4) (.int .u64 ((rd_T120 l0_0 x5_1).f4))).trans hx167_1; replace hx167_2 := (cell_far (p := ⟨gb166, 4, none⟩) (by first | (rw [add_block]; exact hn167_4) | (show (Addr.add _ _).block ≠ _; rw [add_block]; exact hn167_4) | exact hn167_4) (.int .u64 ((rd_T120 l0_0 x5_1).f4))).trans hx167_2; replace hx167_3 := (cell_far (p := ⟨gb166, 4, none⟩) (by first | (rw [add_block]; exact hn167_4) | (show (Addr.add _ _).block ≠ _; rw [add_block]; exact hn167_4) | exact hn167_4) (.int .u64 ((rd_T120 l0_0 x5_1).f4))).trans hx167_3; replace hx167_4 := (cell_far (p := ⟨gb166, 4, none⟩) (by first | (rw [add_block]; exact hn167_4) | (show (Addr.add _ _).block ≠ _; rw [add_block]; exact hn167_4) | exact hn167_4) (.int .u64 ((rd_T120 l0_0 x5_1).f4))).trans hx167_4; replace hx167_5 := (cell_far (p := ⟨gb166, 4, none⟩) (by first | (rw [add_block]; exact hn167_4) | (show (Addr.add _ _).block ≠ _; rw [add_block]; exact hn167_4) | exact hn167_4) (.int .u64 ((rd_T120 l0_0 x5_1).f4))).trans hx167_5; replace hx167_0 := (cell_far (p := ⟨gb166, 5, none⟩) (by first | (rw [add_block]; exact hn167_5) | (show (Addr.add _ _).block ≠ _; rw [add_block]; exact hn167_5) | exact hn167_5) (.slice A165_5 ((rd_T120 l0_0 x5_1).f5).length c165_5)).trans hx167_0; replace hx167_1 := (cell_far (p := ⟨gb166, 5, none⟩) (by first | (rw [add_block]; exact hn167_5) | (show (Addr.add _ _).block ≠ _; rw [add_block]; exact hn167_5) | exact hn167_5) (.slice A165_5 ((rd_T120 l0_0 x5_1).f5).length c165_5)).trans hx167_1; replace hx167_2 := (cell_far (p := ⟨gb166, 5, none⟩) (by first | (rw [add_block]; exact hn167_5) | (show (Addr.add _ _).block ≠ _; rw [add_block]; exact hn167_5) | exact hn167_5) (.slice A165_5 ((rd_T120 l0_0 x5_1).f5).length c165_5)).trans hx167_2; replace hx167_3 := (cell_far (p := ⟨gb166, 5, none⟩) (by first | (rw [add_block]; exact hn167_5) | (show (Addr.add _ _).block ≠ _; rw [add_block]; exact hn167_5) | exact hn167_5) (.slice A165_5 ((rd_T120 l0_0 x5_1).f5).length c165_5)).trans hx167_3; replace hx167_4 := (cell_far (p := ⟨gb166, 5, none⟩) (by first | (rw [add_block]; exact hn167_5) | (show (Addr.add _ _).block ≠ _; rw [add_block]; exact hn167_5) | exact hn167_5) (.slice A165_5 ((rd_T120 l0_0 x5_1).f5).length c165_5)).trans hx167_4; replace hx167_5 := (cell_far (p := ⟨gb166, 5, none⟩) (by first | (rw [add_block]; exact hn167_5) | (show (Addr.add _ _).block ≠ _; rw [add_block]; exact hn167_5) | exact hn167_5) (.slice A165_5 ((rd_T120 l0_0 x5_1).f5).length c165_5)).trans hx167_5; clear hn167_0; clear hn167_1; clear hn167_2; clear hn167_3; clear hn167_4; clear hn167_5; replace p167 := eq_true p167; replace q167 := eq_true q167) | ((with_reducible refine gate_dst (N := 7) rfl ?_); refine box_event ?hg (N := 7) ?hd (cs := #[.int .u64 0, .int .u64 0, .slice none 0 0, .int .u64 0, .int .u64 0, .slice none 0 0]) (t := 120) ?hr ?_; (case hd => rfl); (case hg => rfl); (case hr => first | (go_simp; done) | (go_simp; rfl)); intro gb168 hg w20 hbox hb; have n0_ := Aside0.mk (blk_below (g := gb163) (o := .cells #[.slice (some ad165) l0_0.length c0_0] 41 (0, 0)) (by (with_reducible repeat (first | refine blk_drewN ?_ _ | refine blk_drew ?_ | refine blk_alloc ?_ _)); refine blk_far ?_ NB163_166.out _; (with_reducible repeat (first | refine blk_drewN ?_ _ | refine blk_drew ?_ | refine blk_alloc ?_ _)); refine blk_far ?_ NB163_166.out _; (with_reducible repeat (first | refine blk_drewN ?_ _ | refine blk_drew ?_ | refine blk_alloc ?_ _)); refine blk_far ?_ NB163_166.out _; (with_reducible repeat (first | refine blk_drewN ?_ _ | refine blk_drew ?_ | refine blk_alloc ?_ _)); refine blk_far ?_ NB163_166.out _; (with_reducible repeat (first | refine blk_drewN ?_ _ | refine blk_drew ?_ | refine blk_alloc ?_ _)); refine blk_far ?_ NB163_166.out _; (with_reducible repeat (first | refine blk_drewN ?_ _ | refine blk_drew ?_ | refine blk_alloc ?_ _)); refine blk_far ?_ NB163_166.out _; (with_reducible repeat (first | refine blk_drewN ?_ _ | refine blk_drew ?_ | refine blk_alloc ?_ _)); exact BK163.out) hb); have n1_ := Aside0.mk (blk_below (g := gb164) (o := .cells #[.slice (some ad167) l1_0.length c1_0] 41 (0, 0)) (by (with_reducible repeat (first | refine blk_drewN ?_ _ | refine blk_drew ?_ | refine blk_alloc ?_ _)); refine blk_far ?_ NB164_166.out _; (with_reducible repeat (first | refine blk_drewN ?_ _ | refine blk_drew ?_ | refine blk_alloc ?_ _)); refine blk_far ?_ NB164_166.out _; (with_reducible repeat (first | refine blk_drewN ?_ _ | refine blk_drew ?_ | refine blk_alloc ?_ _)); refine blk_far ?_ NB164_166.out _; (with_reducible repeat (first | refine blk_drewN ?_ _ | refine blk_drew ?_ | refine blk_alloc ?_ _)); refine blk_far ?_ NB164_166.out _; (with_reducible repeat (first | refine blk_drewN ?_ _ | refine blk_drew ?_ | refine blk_alloc ?_ _)); refine blk_far ?_ NB164_166.out _; (with_reducible repeat (first | refine blk_drewN ?_ _ | refine blk_drew ?_ | refine blk_alloc ?_ _)); refine blk_far ?_ NB164_166.out _; (with_reducible repeat (first | refine blk_drewN ?_ _ | refine blk_drew ?_ | refine blk_alloc ?_ _)); exact BK164.out) hb); have n2_ := Aside0.mk (blk_below (g := gb166) (o := .cells #[.int .u64 ((rd_T120 l0_0 x5_1).f0), .int .u64 ((rd_T120 l0_0 x5_1).f1), .slice A165_2 ((rd_T120 l0_0 x5_1).f2).length c165_2, .int .u64 ((rd_T120 l0_0 x5_1).f3), .int .u64 ((rd_T120 l0_0 x5_1).f4), .slice A165_5 ((rd_T120 l0_0 x5_1).f5).length c165_5] 120 (0, 0)) (by (with_reducible repeat (first | refine blk_drewN ?_ _ | refine blk_drew ?_ | refine blk_alloc ?_ _)); refine blk_put (cs := #[.int .u64 ((rd_T120 l0_0 x5_1).f0), .int .u64 ((rd_T120 l0_0 x5_1).f1), .slice A165_2 ((rd_T120 l0_0 x5_1).f2).length c165_2, .int .u64 ((rd_T120 l0_0 x5_1).f3), .int .u64 ((rd_T120 l0_0 x5_1).f4), .slice none 0 0]) ?_ 5 _ rfl; (with_reducible repeat (first | refine blk_drewN ?_ _ | refine blk_drew ?_ | refine blk_alloc ?_ _)); refine blk_put (cs := #[.int .u64 ((rd_T120 l0_0 x5_1).f0), .int .u64 ((rd_T120 l0_0 x5_1).f1), .slice A165_2 ((rd_T120 l0_0 x5_1).f2).length c165_2, .int .u64 ((rd_T120 l0_0 x5_1).f3), .int .u64 0, .slice none 0 0]) ?_ 4 _ rfl; (with_reducible repeat (first | refine blk_drewN ?_ _ | refine blk_drew ?_ | refine blk_alloc ?_ _)); refine blk_put (cs := #[.int .u64 ((rd_T120 l0_0 x5_1).f0), .int .u64 ((rd_T120 l0_0 x5_1).f1), .slice A165_2 ((rd_T120 l0_0 x5_1).f2).length c165_2, .int .u64 0, .int .u64 0, .slice none 0 0]) ?_ 3 _ rfl; (with_reducible repeat (first | refine blk_drewN ?_ _ | refine blk_drew ?_ | refine blk_alloc ?_ _)); refine blk_put (cs := #[.int .u64 ((rd_T120 l0_0 x5_1).f0), .int .u64 ((rd_T120 l0_0 x5_1).f1), .slice none 0 0, .int .u64 0, .int .u64 0, .slice none 0 0]) ?_ 2 _ rfl; (with_reducible repeat (first | refine blk_drewN ?_ _ | refine blk_drew ?_ | refine blk_alloc ?_ _)); refine blk_put (cs := #[.int .u64 ((rd_T120 l0_0 x5_1).f0), .int .u64 0, .slice none 0 0, .int .u64 0, .int .u64 0, .slice none 0 0]) ?_ 1 _ rfl; (with_reducible repeat (first | refine blk_drewN ?_ _ | refine blk_drew ?_ | refine blk_alloc ?_ _)); refine blk_put (cs := #[.int .u64 0, .int .u64 0, .slice none 0 0, .int .u64 0, .int .u64 0, .slice none 0 0]) ?_ 0 _ rfl; (with_reducible repeat (first | refine blk_drewN ?_ _ | refine blk_drew ?_ | refine blk_alloc ?_ _)); exact BK166.out) hb); have n3_ := Aside0.mk (below_step (by repeat (first | (with_reducible first | exact HB.out | apply below_alloc | apply pw_below_drewN | apply below_drew1 | refine below_set ?_ GE163.out | refine below_set ?_ GE164.out | refine below_set ?_ GE166.out) | exact HB.out)) hb); have n4_ := Aside0.mk (hbox); have n5_ := Aside0.mk ((by rw [hg]; exact (below_size (by repeat (first | (with_reducible first | exact HB.out | apply below_alloc | apply pw_below_drewN | apply below_drew1 | refine below_set ?_ GE163.out | refine below_set ?_ GE164.out | refine below_set ?_ GE166.out) | exact HB.out))) : w.heap.size ≤ gb168)); have n6_ := Aside0.mk ((by rw [hg]; exact (below_size (by repeat (first | (with_reducible first | exact HB.out | apply below_alloc | apply pw_below_drewN | apply below_drew1 | refine below_set ?_ GE163.out | refine below_set ?_ GE164.out | refine below_set ?_ GE166.out) | exact HB.out))) : w.heap.size ≤ gb168)); have n7_ := Aside0.mk ((by rw [hg]; exact Nat.ne_of_lt (blk_lt (g := gb163) (o := .cells #[.slice (some ad165) l0_0.length c0_0] 41 (0, 0)) (by (with_reducible repeat (first | refine blk_drewN ?_ _ | refine blk_drew ?_ | refine blk_alloc ?_ _)); refine blk_far ?_ NB163_166.out _; (with_reducible repeat (first | refine blk_drewN ?_ _ | refine blk_drew ?_ | refine blk_alloc ?_ _)); refine blk_far ?_ NB163_166.out _; (with_reducible repeat (first | refine blk_drewN ?_ _ | refine blk_drew ?_ | refine blk_alloc ?_ _)); refine blk_far ?_ NB163_166.out _; (with_reducible repeat (first | refine blk_drewN ?_ _ | refine blk_drew ?_ | refine blk_alloc ?_ _)); refine blk_far ?_ NB163_166.out _; (with_reducible repeat (first | refine blk_drewN ?_ _ | refine blk_drew ?_ | refine blk_alloc ?_ _)); refine blk_far ?_ NB163_166.out _; (with_reducible repeat (first | refine blk_drewN ?_ _ | refine blk_drew ?_ | refine blk_alloc ?_ _)); refine blk_far ?_ NB163_166.out _; (with_reducible repeat (first | refine blk_drewN ?_ _ | refine blk_drew ?_ | refine blk_alloc ?_ _)); exact BK163.out)) : gb163 ≠ gb168)); have n8_ := Aside0.mk ((by rw [hg]; exact Nat.ne_of_gt (blk_lt (g := gb163) (o := .cells #[.slice (some ad165) l0_0.length c0_0] 41 (0, 0)) (by (with_reducible repeat (first | refine blk_drewN ?_ _ | refine blk_drew ?_ | refine blk_alloc ?_ _)); refine blk_far ?_ NB163_166.out _; (with_reducible repeat (first | refine blk_drewN ?_ _ | refine blk_drew ?_ | refine blk_alloc ?_ _)); refine blk_far ?_ NB163_166.out _; (with_reducible repeat (first | refine blk_drewN ?_ _ | refine blk_drew ?_ | refine blk_alloc ?_ _)); refine blk_far ?_ NB163_166.out _; (with_reducible repeat (first | refine blk_drewN ?_ _ | refine blk_drew ?_ | refine blk_alloc ?_ _)); refine blk_far ?_ NB163_166.out _; (with_reducible repeat (first | refine blk_drewN ?_ _ | refine blk_drew ?_ | refine blk_alloc ?_ _)); refine blk_far ?_ NB163_166.out _; (with_reducible repeat (first | refine blk_drewN ?_ _ | refine blk_drew ?_ | refine blk_alloc ?_ _)); refine blk_far ?_ NB163_166.out _; (with_reducible repeat (first | refine blk_drewN ?_ _ | refine blk_drew ?_ | refine blk_alloc ?_ _)); exact BK163.out)) : gb168 ≠ gb163)); have n9_ := Aside0.mk ((by rw [hg]; exact Nat.ne_of_lt (blk_lt (g := gb164) (o := .cells #[.slice (some ad167) l1_0.length c1_0] 41 (0, 0)) (by (with_reducible repeat (first | refine blk_drewN ?_ _ | refine blk_drew ?_ | refine blk_alloc ?_ _)); refine blk_far ?_ NB164_166.out _; (with_reducible repeat (first | refine blk_drewN ?_ _ | refine blk_drew ?_ | refine blk_alloc ?_ _)); refine blk_far ?_ NB164_166.out _; (with_reducible repeat (first | refine blk_drewN ?_ _ | refine blk_drew ?_ | refine blk_alloc ?_ _)); refine blk_far ?_ NB164_166.out _; (with_reducible repeat (first | refine blk_drewN ?_ _ | refine blk_drew ?_ | refine blk_alloc ?_ _)); refine blk_far ?_ NB164_166.out _; (with_reducible repeat (first | refine blk_drewN ?_ _ | refine blk_drew ?_ | refine blk_alloc ?_ _)); refine blk_far ?_ NB164_166.out _; (with_reducible repeat (first | refine blk_drewN ?_ _ | refine blk_drew ?_ | refine blk_alloc ?_ _)); refine blk_far ?_ NB164_166.out _; (with_reducible repeat (first | refine blk_drewN ?_ _ | refine blk_drew ?_ | refine blk_alloc ?_ _)); exact BK164.out)) : gb164 ≠ gb168)); have n10_ := Aside0.mk ((by rw [hg]; exact Nat.ne_of_gt (blk_lt (g := gb164) (o := .cells #[.slice (some ad167) l1_0.length c1_0] 41 (0, 0)) (by (with_reducible repeat (first | refine blk_drewN ?_ _ | refine blk_drew ?_ | refine blk_alloc ?_ _)); refine blk_far ?_ NB164_166.out _; (with_reducible repeat (first | refine blk_drewN ?_ _ | refine blk_drew ?_ | refine blk_alloc ?_ _)); refine blk_far ?_ NB164_166.out _; (with_reducible repeat (first | refine blk_drewN ?_ _ | refine blk_drew ?_ | refine blk_alloc ?_ _)); refine blk_far ?_ NB164_166.out _; (with_reducible repeat (first | refine blk_drewN ?_ _ | refine blk_drew ?_ | refine blk_alloc ?_ _)); refine blk_far ?_ NB164_166.out _; (with_reducible repeat (first | refine blk_drewN ?_ _ | refine blk_drew ?_ | refine blk_alloc ?_ _)); refine blk_far ?_ NB164_166.out _; (with_reducible repeat (first | refine blk_drewN ?_ _ | refine blk_drew ?_ | refine blk_alloc ?_ _)); refine blk_far ?_ NB164_166.out _; (with_reducible repeat (first | refine blk_drewN ?_ _ | refine blk_drew ?_ | refine blk_alloc ?_ _)); exact BK164.out)) : gb168 ≠ gb164)); have n11_ := Aside0.mk ((by rw [hg]; exact Nat.ne_of_lt (blk_lt (g := gb166) (o := .cells #[.int .u64 ((rd_T120 l0_0 x5_1).f0), .int .u64 ((rd_T120 l0_0 x5_1).f1), .slice A165_2 ((rd_T120 l0_0 x5_1).f2).length c165_2, .int .u64 ((rd_T120 l0_0 x5_1).f3), .int .u64 ((rd_T120 l0_0 x5_1).f4), .slice A165_5 ((rd_T120 l0_0 x5_1).f5).length c165_5] 120 (0, 0)) (by (with_reducible repeat (first | refine blk_drewN ?_ _ | refine blk_drew ?_ | refine blk_alloc ?_ _)); refine blk_put (cs := #[.int .u64 ((rd_T120 l0_0 x5_1).f0), .int .u64 ((rd_T120 l0_0 x5_1).f1), .slice A165_2 ((rd_T120 l0_0 x5_1).f2).length c165_2, .int .u64 ((rd_T120 l0_0 x5_1).f3), .int .u64 ((rd_T120 l0_0 x5_1).f4), .slice none 0 0]) ?_ 5 _ rfl; (with_reducible repeat (first | refine blk_drewN ?_ _ | refine blk_drew ?_ | refine blk_alloc ?_ _)); refine blk_put (cs := #[.int .u64 ((rd_T120 l0_0 x5_1).f0), .int .u64 ((rd_T120 l0_0 x5_1).f1), .slice A165_2 ((rd_T120 l0_0 x5_1).f2).length c165_2, .int .u64 ((rd_T120 l0_0 x5_1).f3), .int .u64 0, .slice none 0 0]) ?_ 4 _ rfl; (with_reducible repeat (first | refine blk_drewN ?_ _ | refine blk_drew ?_ | refine blk_alloc ?_ _)); refine blk_put (cs := #[.int .u64 ((rd_T120 l0_0 x5_1).f0), .int .u64 ((rd_T120 l0_0 x5_1).f1), .slice A165_2 ((rd_T120 l0_0 x5_1).f2).length c165_2, .int .u64 0, .int .u64 0, .slice none 0 0]) ?_ 3 _ rfl; (with_reducible repeat (first | refine blk_drewN ?_ _ | refine blk_drew ?_ | refine blk_alloc ?_ _)); refine blk_put (cs := #[.int .u64 ((rd_T120 l0_0 x5_1).f0), .int .u64 ((rd_T120 l0_0 x5_1).f1), .slice none 0 0, .int .u64 0, .int .u64 0, .slice none 0 0]) ?_ 2 _ rfl; (with_reducible repeat (first | refine blk_drewN ?_ _ | refine blk_drew ?_ | refine blk_alloc ?_ _)); refine blk_put (cs := #[.int .u64 ((rd_T120 l0_0 x5_1).f0), .int .u64 0, .slice none 0 0, .int .u64 0, .int .u64 0, .slice none 0 0]) ?_ 1 _ rfl; (with_reducible repeat (first | refine blk_drewN ?_ _ | refine blk_drew ?_ | refine blk_alloc ?_ _)); refine blk_put (cs := #[.int .u64 0, .int .u64 0, .slice none 0 0, .int .u64 0, .int .u64 0, .slice none 0 0]) ?_ 0 _ rfl; (with_reducible repeat (first | refine blk_drewN ?_ _ | refine blk_drew ?_ | refine blk_alloc ?_ _)); exact BK166.out)) : gb166 ≠ gb168)); have n12_ := Aside0.mk ((by rw [hg]; exact Nat.ne_of_gt (blk_lt (g := gb166) (o := .cells #[.int .u64 ((rd_T120 l0_0 x5_1).f0), .int .u64 ((rd_T120 l0_0 x5_1).f1), .slice A165_2 ((rd_T120 l0_0 x5_1).f2).length c165_2, .int .u64 ((rd_T120 l0_0 x5_1).f3), .int .u64 ((rd_T120 l0_0 x5_1).f4), .slice A165_5 ((rd_T120 l0_0 x5_1).f5).length c165_5] 120 (0, 0)) (by (with_reducible repeat (first | refine blk_drewN ?_ _ | refine blk_drew ?_ | refine blk_alloc ?_ _)); refine blk_put (cs := #[.int .u64 ((rd_T120 l0_0 x5_1).f0), .int .u64 ((rd_T120 l0_0 x5_1).f1), .slice A165_2 ((rd_T120 l0_0 x5_1).f2).length c165_2, .int .u64 ((rd_T120 l0_0 x5_1).f3), .int .u64 ((rd_T120 l0_0 x5_1).f4), .slice none 0 0]) ?_ 5 _ rfl; (with_reducible repeat (first | refine blk_drewN ?_ _ | refine blk_drew ?_ | refine blk_alloc ?_ _)); refine blk_put (cs := #[.int .u64 ((rd_T120 l0_0 x5_1).f0), .int .u64 ((rd_T120 l0_0 x5_1).f1), .slice A165_2 ((rd_T120 l0_0 x5_1).f2).length c165_2, .int .u64 ((rd_T120 l0_0 x5_1).f3), .int .u64 0, .slice none 0 0]) ?_ 4 _ rfl; (with_reducible repeat (first | refine blk_drewN ?_ _ | refine blk_drew ?_ | refine blk_alloc ?_ _)); refine blk_put (cs := #[.int .u64 ((rd_T120 l0_0 x5_1).f0), .int .u64 ((rd_T120 l0_0 x5_1).f1), .slice A165_2 ((rd_T120 l0_0 x5_1).f2).length c165_2, .int .u64 0, .int .u64 0, .slice none 0 0]) ?_ 3 _ rfl; (with_reducible repeat (first | refine blk_drewN ?_ _ | refine blk_drew ?_ | refine blk_alloc ?_ _)); refine blk_put (cs := #[.int .u64 ((rd_T120 l0_0 x5_1).f0), .int .u64 ((rd_T120 l0_0 x5_1).f1), .slice none 0 0, .int .u64 0, .int .u64 0, .slice none 0 0]) ?_ 2 _ rfl; (with_reducible repeat (first | refine blk_drewN ?_ _ | refine blk_drew ?_ | refine blk_alloc ?_ _)); refine blk_put (cs := #[.int .u64 ((rd_T120 l0_0 x5_1).f0), .int .u64 0, .slice none 0 0, .int .u64 0, .int .u64 0, .slice none 0 0]) ?_ 1 _ rfl; (with_reducible repeat (first | refine blk_drewN ?_ _ | refine blk_drew ?_ | refine blk_alloc ?_ _)); refine blk_put (cs := #[.int .u64 0, .int .u64 0, .slice none 0 0, .int .u64 0, .int .u64 0, .slice none 0 0]) ?_ 0 _ rfl; (with_reducible repeat (first | refine blk_drewN ?_ _ | refine blk_drew ?_ | refine blk_alloc ?_ _)); exact BK166.out)) : gb168 ≠ gb166)); clear BK163; clear BK164; clear BK166; clear HB; have BK163 := n0_; have BK164 := n1_; have BK166 := n2_; have HB := n3_; have BK168 := n4_; have GW168 := n5_; have GE168 := n6_; have NB163_168 := n7_; have NB168_163 := n8_; have NB164_168 := n9_; have NB168_164 := n10_; have NB166_168 := n11_; have NB168_166 := n12_; clear n0_ n1_ n2_ n3_ n4_ n5_ n6_ n7_ n8_ n9_ n10_ n11_ n12_; clear hb hbox hg; have hnb21 := NB168_163.out; have hnc21 := NB163_168.out; have hnb22 := NB168_164.out; have hnc22 := NB164_168.out; have hnb23 := NB168_166.out; have hnc23 := NB166_168.out; have hcz24_0 : w20.cell? ⟨gb168, 0, none⟩ = some (.int .u64 0) := (blk_cell BK168.out 0).trans rfl; have hcz24_1 : w20.cell? ⟨gb168, 1, none⟩ = some (.int .u64 0) := (blk_cell BK168.out 1).trans rfl; have hcz24_2 : w20.cell? ⟨gb168, 2, none⟩ = some (.slice none 0 0) := (blk_cell BK168.out 2).trans rfl; have hcz24_3 : w20.cell? ⟨gb168, 3, none⟩ = some (.int .u64 0) := (blk_cell BK168.out 3).trans rfl; have hcz24_4 : w20.cell? ⟨gb168, 4, none⟩ = some (.int .u64 0) := (blk_cell BK168.out 4).trans rfl; have hcz24_5 : w20.cell? ⟨gb168, 5, none⟩ = some (.slice none 0 0) := (blk_cell BK168.out 5).trans rfl; have hfz24_0 := blk_frozen BK168.out 0; have hfz24_1 := blk_frozen BK168.out 1; have hfz24_2 := blk_frozen BK168.out 2; have hfz24_3 := blk_frozen BK168.out 3; have hfz24_4 := blk_frozen BK168.out 4; have hfz24_5 := blk_frozen BK168.out 5))
              (try simp only [Act.put, List.setIfInBounds_toArray, List.set_cons_zero, List.set_cons_succ])
              go_cut [59] (fun v59 wc => ∃ (kq : Nat) (x59_11 : Bool), v59 = .bool x59_11 ∧ Aside0 (shardref10_SameEnd.j1 kq x5_1 x59_11 l0_0 l1_0 ((rd_T120 l0_0 x5_1).f0) ((rd_T120 l0_0 x5_1).f1) ((rd_T120 l0_0 x5_1).f2) ((rd_T120 l0_0 x5_1).f3) ((rd_T120 l0_0 x5_1).f4) ((rd_T120 l0_0 x5_1).f5) ((rd_T120 l1_0 x5_1).f0) ((rd_T120 l1_0 x5_1).f1) ((rd_T120 l1_0 x5_1).f2) ((rd_T120 l1_0 x5_1).f3) ((rd_T120 l1_0 x5_1).f4) ((rd_T120 l1_0 x5_1).f5) = some r) ∧ Aside0 (kq ≤ k1) ∧ Aside0 (wc.heap[gb163]? = some (.cells #[(.slice (some ad165) l0_0.length c0_0)] 41 (0, 0))) ∧ Aside0 (wc.heap[gb164]? = some (.cells #[(.slice (some ad167) l1_0.length c1_0)] 41 (0, 0))) ∧ Aside0 (wc.heap[gb166]? = some (.cells #[.int .u64 ((rd_T120 l0_0 x5_1).f0), .int .u64 ((rd_T120 l0_0 x5_1).f1), (.slice A165_2 ((rd_T120 l0_0 x5_1).f2).length c165_2), .int .u64 ((rd_T120 l0_0 x5_1).f3), .int .u64 ((rd_T120 l0_0 x5_1).f4), (.slice A165_5 ((rd_T120 l0_0 x5_1).f5).length c165_5)] 120 (0, 0))) ∧ Aside0 (wc.heap[gb168]? = some (.cells #[.int .u64 ((rd_T120 l1_0 x5_1).f0), .int .u64 ((rd_T120 l1_0 x5_1).f1), (.slice A167_2 ((rd_T120 l1_0 x5_1).f2).length c167_2), .int .u64 ((rd_T120 l1_0 x5_1).f3), .int .u64 ((rd_T120 l1_0 x5_1).f4), (.slice A167_5 ((rd_T120 l1_0 x5_1).f5).length c167_5)] 120 (0, 0))) ∧ Aside0 (Below w.heap.size w wc))
              case first =>
                have H := HC12.out
                clear HC12
                by_cases c25 : ((rd_T120 l0_0 x5_1).f0) = ((rd_T120 l1_0 x5_1).f0)
                · rw [if_pos c25] at H
                  have c25b0 : (((rd_T120 l0_0 x5_1).f0) == ((rd_T120 l1_0 x5_1).f0)) = true := beq_iff_eq.mpr c25
                  have c25b1 : (((rd_T120 l0_0 x5_1).f0) != ((rd_T120 l1_0 x5_1).f0)) = false := bne_eq_false_iff_eq.mpr c25
                  clear c25
                  (first | rw [c25b0] | (simp only [i64_w, i32_w]; rw [c25b0]) | skip)
                  by_cases c26 : ((rd_T120 l0_0 x5_1).f1) = ((rd_T120 l1_0 x5_1).f1)
                  · rw [if_pos c26] at H
                    have c26b0 : (((rd_T120 l0_0 x5_1).f1) == ((rd_T120 l1_0 x5_1).f1)) = true := beq_iff_eq.mpr c26
                    have c26b1 : (((rd_T120 l0_0 x5_1).f1) != ((rd_T120 l1_0 x5_1).f1)) = false := bne_eq_false_iff_eq.mpr c26
                    clear c26
                    by_cases c27 : ((rd_T120 l0_0 x5_1).f3) = ((rd_T120 l1_0 x5_1).f3)
                    · rw [if_pos c27] at H
                      have c27b0 : (((rd_T120 l0_0 x5_1).f3) == ((rd_T120 l1_0 x5_1).f3)) = true := beq_iff_eq.mpr c27
                      have c27b1 : (((rd_T120 l0_0 x5_1).f3) != ((rd_T120 l1_0 x5_1).f3)) = false := bne_eq_false_iff_eq.mpr c27
                      clear c27
                      have H' := Aside0.mk H
                      clear H
                      have hnb28 := NB166_163.out
                      have hnc28 := NB163_166.out
                      have hnb29 := NB166_164.out
                      have hnc29 := NB164_166.out
                      have hnb30 := NB166_168.out
                      have hnc30 := NB168_166.out
                      have hcz31_0 : w20.cell? ⟨gb166, 0, none⟩ = some (.int .u64 ((rd_T120 l0_0 x5_1).f0)) := (blk_cell BK166.out 0).trans rfl
                      have hcz31_1 : w20.cell? ⟨gb166, 1, none⟩ = some (.int .u64 ((rd_T120 l0_0 x5_1).f1)) := (blk_cell BK166.out 1).trans rfl
                      have hcz31_2 : w20.cell? ⟨gb166, 2, none⟩ = some (.slice A165_2 ((rd_T120 l0_0 x5_1).f2).length c165_2) := (blk_cell BK166.out 2).trans rfl
                      have hcz31_3 : w20.cell? ⟨gb166, 3, none⟩ = some (.int .u64 ((rd_T120 l0_0 x5_1).f3)) := (blk_cell BK166.out 3).trans rfl
                      have hcz31_4 : w20.cell? ⟨gb166, 4, none⟩ = some (.int .u64 ((rd_T120 l0_0 x5_1).f4)) := (blk_cell BK166.out 4).trans rfl
                      have hcz31_5 : w20.cell? ⟨gb166, 5, none⟩ = some (.slice A165_5 ((rd_T120 l0_0 x5_1).f5).length c165_5) := (blk_cell BK166.out 5).trans rfl
                      have hfz31_0 := blk_frozen BK166.out 0
                      have hfz31_1 := blk_frozen BK166.out 1
                      have hfz31_2 := blk_frozen BK166.out 2
                      have hfz31_3 := blk_frozen BK166.out 3
                      have hfz31_4 := blk_frozen BK166.out 4
                      have hfz31_5 := blk_frozen BK166.out 5
                      have hnb32 := NB168_163.out
                      have hnc32 := NB163_168.out
                      have hnb33 := NB168_164.out
                      have hnc33 := NB164_168.out
                      have hcz34_0 : w20.cell? ⟨gb168, 0, none⟩ = some (.int .u64 0) := (blk_cell BK168.out 0).trans rfl
                      have hcz34_1 : w20.cell? ⟨gb168, 1, none⟩ = some (.int .u64 0) := (blk_cell BK168.out 1).trans rfl
                      have hcz34_2 : w20.cell? ⟨gb168, 2, none⟩ = some (.slice none 0 0) := (blk_cell BK168.out 2).trans rfl
                      have hcz34_3 : w20.cell? ⟨gb168, 3, none⟩ = some (.int .u64 0) := (blk_cell BK168.out 3).trans rfl
                      have hcz34_4 : w20.cell? ⟨gb168, 4, none⟩ = some (.int .u64 0) := (blk_cell BK168.out 4).trans rfl
                      have hcz34_5 : w20.cell? ⟨gb168, 5, none⟩ = some (.slice none 0 0) := (blk_cell BK168.out 5).trans rfl
                      have hfz34_0 := blk_frozen BK168.out 0
                      have hfz34_1 := blk_frozen BK168.out 1
                      have hfz34_2 := blk_frozen BK168.out 2
                      have hfz34_3 := blk_frozen BK168.out 3
                      have hfz34_4 := blk_frozen BK168.out 4
                      have hfz34_5 := blk_frozen BK168.out 5
                      go_wp2
                      go_meet
                      case rel => exact ⟨_, ((((rd_T120 l0_0 x5_1).f4) != ((rd_T120 l1_0 x5_1).f4))), (by first | rfl | (simp; done) | (simp [*]; done)), H', ⟨by have := HK1.out; first | omega | exact Nat.le_refl _⟩, ⟨by (with_reducible repeat (first | refine blk_drewN ?_ _ | refine blk_drew ?_ | refine blk_alloc ?_ _)); refine blk_far ?_ NB163_168.out _; (with_reducible repeat (first | refine blk_drewN ?_ _ | refine blk_drew ?_ | refine blk_alloc ?_ _)); refine blk_far ?_ NB163_168.out _; (with_reducible repeat (first | refine blk_drewN ?_ _ | refine blk_drew ?_ | refine blk_alloc ?_ _)); refine blk_far ?_ NB163_168.out _; (with_reducible repeat (first | refine blk_drewN ?_ _ | refine blk_drew ?_ | refine blk_alloc ?_ _)); refine blk_far ?_ NB163_168.out _; (with_reducible repeat (first | refine blk_drewN ?_ _ | refine blk_drew ?_ | refine blk_alloc ?_ _)); refine blk_far ?_ NB163_168.out _; (with_reducible repeat (first | refine blk_drewN ?_ _ | refine blk_drew ?_ | refine blk_alloc ?_ _)); refine blk_far ?_ NB163_168.out _; (with_reducible repeat (first | refine blk_drewN ?_ _ | refine blk_drew ?_ | refine blk_alloc ?_ _)); exact BK163.out⟩, ⟨by (with_reducible repeat (first | refine blk_drewN ?_ _ | refine blk_drew ?_ | refine blk_alloc ?_ _)); refine blk_far ?_ NB164_168.out _; (with_reducible repeat (first | refine blk_drewN ?_ _ | refine blk_drew ?_ | refine blk_alloc ?_ _)); refine blk_far ?_ NB164_168.out _; (with_reducible repeat (first | refine blk_drewN ?_ _ | refine blk_drew ?_ | refine blk_alloc ?_ _)); refine blk_far ?_ NB164_168.out _; (with_reducible repeat (first | refine blk_drewN ?_ _ | refine blk_drew ?_ | refine blk_alloc ?_ _)); refine blk_far ?_ NB164_168.out _; (with_reducible repeat (first | refine blk_drewN ?_ _ | refine blk_drew ?_ | refine blk_alloc ?_ _)); refine blk_far ?_ NB164_168.out _; (with_reducible repeat (first | refine blk_drewN ?_ _ | refine blk_drew ?_ | refine blk_alloc ?_ _)); refine blk_far ?_ NB164_168.out _; (with_reducible repeat (first | refine blk_drewN ?_ _ | refine blk_drew ?_ | refine blk_alloc ?_ _)); exact BK164.out⟩, ⟨by (with_reducible repeat (first | refine blk_drewN ?_ _ | refine blk_drew ?_ | refine blk_alloc ?_ _)); refine blk_far ?_ NB166_168.out _; (with_reducible repeat (first | refine blk_drewN ?_ _ | refine blk_drew ?_ | refine blk_alloc ?_ _)); refine blk_far ?_ NB166_168.out _; (with_reducible repeat (first | refine blk_drewN ?_ _ | refine blk_drew ?_ | refine blk_alloc ?_ _)); refine blk_far ?_ NB166_168.out _; (with_reducible repeat (first | refine blk_drewN ?_ _ | refine blk_drew ?_ | refine blk_alloc ?_ _)); refine blk_far ?_ NB166_168.out _; (with_reducible repeat (first | refine blk_drewN ?_ _ | refine blk_drew ?_ | refine blk_alloc ?_ _)); refine blk_far ?_ NB166_168.out _; (with_reducible repeat (first | refine blk_drewN ?_ _ | refine blk_drew ?_ | refine blk_alloc ?_ _)); refine blk_far ?_ NB166_168.out _; (with_reducible repeat (first | refine blk_drewN ?_ _ | refine blk_drew ?_ | refine blk_alloc ?_ _)); exact BK166.out⟩, ⟨by (with_reducible repeat (first | refine blk_drewN ?_ _ | refine blk_drew ?_ | refine blk_alloc ?_ _)); refine blk_put (cs := #[.int .u64 ((rd_T120 l1_0 x5_1).f0), .int .u64 ((rd_T120 l1_0 x5_1).f1), .slice A167_2 ((rd_T120 l1_0 x5_1).f2).length c167_2, .int .u64 ((rd_T120 l1_0 x5_1).f3), .int .u64 ((rd_T120 l1_0 x5_1).f4), .slice none 0 0]) ?_ 5 _ rfl; (with_reducible repeat (first | refine blk_drewN ?_ _ | refine blk_drew ?_ | refine blk_alloc ?_ _)); refine blk_put (cs := #[.int .u64 ((rd_T120 l1_0 x5_1).f0), .int .u64 ((rd_T120 l1_0 x5_1).f1), .slice A167_2 ((rd_T120 l1_0 x5_1).f2).length c167_2, .int .u64 ((rd_T120 l1_0 x5_1).f3), .int .u64 0, .slice none 0 0]) ?_ 4 _ rfl; (with_reducible repeat (first | refine blk_drewN ?_ _ | refine blk_drew ?_ | refine blk_alloc ?_ _)); refine blk_put (cs := #[.int .u64 ((rd_T120 l1_0 x5_1).f0), .int .u64 ((rd_T120 l1_0 x5_1).f1), .slice A167_2 ((rd_T120 l1_0 x5_1).f2).length c167_2, .int .u64 0, .int .u64 0, .slice none 0 0]) ?_ 3 _ rfl; (with_reducible repeat (first | refine blk_drewN ?_ _ | refine blk_drew ?_ | refine blk_alloc ?_ _)); refine blk_put (cs := #[.int .u64 ((rd_T120 l1_0 x5_1).f0), .int .u64 ((rd_T120 l1_0 x5_1).f1), .slice none 0 0, .int .u64 0, .int .u64 0, .slice none 0 0]) ?_ 2 _ rfl; (with_reducible repeat (first | refine blk_drewN ?_ _ | refine blk_drew ?_ | refine blk_alloc ?_ _)); refine blk_put (cs := #[.int .u64 ((rd_T120 l1_0 x5_1).f0), .int .u64 0, .slice none 0 0, .int .u64 0, .int .u64 0, .slice none 0 0]) ?_ 1 _ rfl; (with_reducible repeat (first | refine blk_drewN ?_ _ | refine blk_drew ?_ | refine blk_alloc ?_ _)); refine blk_put (cs := #[.int .u64 0, .int .u64 0, .slice none 0 0, .int .u64 0, .int .u64 0, .slice none 0 0]) ?_ 0 _ rfl; (with_reducible repeat (first | refine blk_drewN ?_ _ | refine blk_drew ?_ | refine blk_alloc ?_ _)); exact BK168.out⟩, ⟨by repeat (first | (with_reducible first | exact HB.out | apply below_alloc | apply pw_below_drewN | apply below_drew1 | refine below_set ?_ GE163.out | refine below_set ?_ GE164.out | refine below_set ?_ GE166.out | refine below_set ?_ GE168.out) | exact HB.out)⟩⟩
                    · rw [if_neg c27] at H
                      have c27b0 : (((rd_T120 l0_0 x5_1).f3) == ((rd_T120 l1_0 x5_1).f3)) = false := beq_eq_false_iff_ne.mpr c27
                      have c27b1 : (((rd_T120 l0_0 x5_1).f3) != ((rd_T120 l1_0 x5_1).f3)) = true := bne_iff_ne.mpr c27
                      have H' := Aside0.mk H
                      clear H
                      have hnb35 := NB166_163.out
                      have hnc35 := NB163_166.out
                      have hnb36 := NB166_164.out
                      have hnc36 := NB164_166.out
                      have hnb37 := NB166_168.out
                      have hnc37 := NB168_166.out
                      have hcz38_0 : w20.cell? ⟨gb166, 0, none⟩ = some (.int .u64 ((rd_T120 l0_0 x5_1).f0)) := (blk_cell BK166.out 0).trans rfl
                      have hcz38_1 : w20.cell? ⟨gb166, 1, none⟩ = some (.int .u64 ((rd_T120 l0_0 x5_1).f1)) := (blk_cell BK166.out 1).trans rfl
                      have hcz38_2 : w20.cell? ⟨gb166, 2, none⟩ = some (.slice A165_2 ((rd_T120 l0_0 x5_1).f2).length c165_2) := (blk_cell BK166.out 2).trans rfl
                      have hcz38_3 : w20.cell? ⟨gb166, 3, none⟩ = some (.int .u64 ((rd_T120 l0_0 x5_1).f3)) := (blk_cell BK166.out 3).trans rfl
                      have hcz38_4 : w20.cell? ⟨gb166, 4, none⟩ = some (.int .u64 ((rd_T120 l0_0 x5_1).f4)) := (blk_cell BK166.out 4).trans rfl
                      have hcz38_5 : w20.cell? ⟨gb166, 5, none⟩ = some (.slice A165_5 ((rd_T120 l0_0 x5_1).f5).length c165_5) := (blk_cell BK166.out 5).trans rfl
                      have hfz38_0 := blk_frozen BK166.out 0
                      have hfz38_1 := blk_frozen BK166.out 1
                      have hfz38_2 := blk_frozen BK166.out 2
                      have hfz38_3 := blk_frozen BK166.out 3
                      have hfz38_4 := blk_frozen BK166.out 4
                      have hfz38_5 := blk_frozen BK166.out 5
                      have hnb39 := NB168_163.out
                      have hnc39 := NB163_168.out
                      have hnb40 := NB168_164.out
                      have hnc40 := NB164_168.out
                      have hcz41_0 : w20.cell? ⟨gb168, 0, none⟩ = some (.int .u64 0) := (blk_cell BK168.out 0).trans rfl
                      have hcz41_1 : w20.cell? ⟨gb168, 1, none⟩ = some (.int .u64 0) := (blk_cell BK168.out 1).trans rfl
                      have hcz41_2 : w20.cell? ⟨gb168, 2, none⟩ = some (.slice none 0 0) := (blk_cell BK168.out 2).trans rfl
                      have hcz41_3 : w20.cell? ⟨gb168, 3, none⟩ = some (.int .u64 0) := (blk_cell BK168.out 3).trans rfl
                      have hcz41_4 : w20.cell? ⟨gb168, 4, none⟩ = some (.int .u64 0) := (blk_cell BK168.out 4).trans rfl
                      have hcz41_5 : w20.cell? ⟨gb168, 5, none⟩ = some (.slice none 0 0) := (blk_cell BK168.out 5).trans rfl
                      have hfz41_0 := blk_frozen BK168.out 0
                      have hfz41_1 := blk_frozen BK168.out 1
                      have hfz41_2 := blk_frozen BK168.out 2
                      have hfz41_3 := blk_frozen BK168.out 3
                      have hfz41_4 := blk_frozen BK168.out 4
                      have hfz41_5 := blk_frozen BK168.out 5
                      go_wp2
                      go_meet
                      case rel => exact ⟨_, (true), (by first | rfl | (simp; done) | (simp [*]; done)), H', ⟨by have := HK1.out; first | omega | exact Nat.le_refl _⟩, ⟨by (with_reducible repeat (first | refine blk_drewN ?_ _ | refine blk_drew ?_ | refine blk_alloc ?_ _)); refine blk_far ?_ NB163_168.out _; (with_reducible repeat (first | refine blk_drewN ?_ _ | refine blk_drew ?_ | refine blk_alloc ?_ _)); refine blk_far ?_ NB163_168.out _; (with_reducible repeat (first | refine blk_drewN ?_ _ | refine blk_drew ?_ | refine blk_alloc ?_ _)); refine blk_far ?_ NB163_168.out _; (with_reducible repeat (first | refine blk_drewN ?_ _ | refine blk_drew ?_ | refine blk_alloc ?_ _)); refine blk_far ?_ NB163_168.out _; (with_reducible repeat (first | refine blk_drewN ?_ _ | refine blk_drew ?_ | refine blk_alloc ?_ _)); refine blk_far ?_ NB163_168.out _; (with_reducible repeat (first | refine blk_drewN ?_ _ | refine blk_drew ?_ | refine blk_alloc ?_ _)); refine blk_far ?_ NB163_168.out _; (with_reducible repeat (first | refine blk_drewN ?_ _ | refine blk_drew ?_ | refine blk_alloc ?_ _)); exact BK163.out⟩, ⟨by (with_reducible repeat (first | refine blk_drewN ?_ _ | refine blk_drew ?_ | refine blk_alloc ?_ _)); refine blk_far ?_ NB164_168.out _; (with_reducible repeat (first | refine blk_drewN ?_ _ | refine blk_drew ?_ | refine blk_alloc ?_ _)); refine blk_far ?_ NB164_168.out _; (with_reducible repeat (first | refine blk_drewN ?_ _ | refine blk_drew ?_ | refine blk_alloc ?_ _)); refine blk_far ?_ NB164_168.out _; (with_reducible repeat (first | refine blk_drewN ?_ _ | refine blk_drew ?_ | refine blk_alloc ?_ _)); refine blk_far ?_ NB164_168.out _; (with_reducible repeat (first | refine blk_drewN ?_ _ | refine blk_drew ?_ | refine blk_alloc ?_ _)); refine blk_far ?_ NB164_168.out _; (with_reducible repeat (first | refine blk_drewN ?_ _ | refine blk_drew ?_ | refine blk_alloc ?_ _)); refine blk_far ?_ NB164_168.out _; (with_reducible repeat (first | refine blk_drewN ?_ _ | refine blk_drew ?_ | refine blk_alloc ?_ _)); exact BK164.out⟩, ⟨by (with_reducible repeat (first | refine blk_drewN ?_ _ | refine blk_drew ?_ | refine blk_alloc ?_ _)); refine blk_far ?_ NB166_168.out _; (with_reducible repeat (first | refine blk_drewN ?_ _ | refine blk_drew ?_ | refine blk_alloc ?_ _)); refine blk_far ?_ NB166_168.out _; (with_reducible repeat (first | refine blk_drewN ?_ _ | refine blk_drew ?_ | refine blk_alloc ?_ _)); refine blk_far ?_ NB166_168.out _; (with_reducible repeat (first | refine blk_drewN ?_ _ | refine blk_drew ?_ | refine blk_alloc ?_ _)); refine blk_far ?_ NB166_168.out _; (with_reducible repeat (first | refine blk_drewN ?_ _ | refine blk_drew ?_ | refine blk_alloc ?_ _)); refine blk_far ?_ NB166_168.out _; (with_reducible repeat (first | refine blk_drewN ?_ _ | refine blk_drew ?_ | refine blk_alloc ?_ _)); refine blk_far ?_ NB166_168.out _; (with_reducible repeat (first | refine blk_drewN ?_ _ | refine blk_drew ?_ | refine blk_alloc ?_ _)); exact BK166.out⟩, ⟨by (with_reducible repeat (first | refine blk_drewN ?_ _ | refine blk_drew ?_ | refine blk_alloc ?_ _)); refine blk_put (cs := #[.int .u64 ((rd_T120 l1_0 x5_1).f0), .int .u64 ((rd_T120 l1_0 x5_1).f1), .slice A167_2 ((rd_T120 l1_0 x5_1).f2).length c167_2, .int .u64 ((rd_T120 l1_0 x5_1).f3), .int .u64 ((rd_T120 l1_0 x5_1).f4), .slice none 0 0]) ?_ 5 _ rfl; (with_reducible repeat (first | refine blk_drewN ?_ _ | refine blk_drew ?_ | refine blk_alloc ?_ _)); refine blk_put (cs := #[.int .u64 ((rd_T120 l1_0 x5_1).f0), .int .u64 ((rd_T120 l1_0 x5_1).f1), .slice A167_2 ((rd_T120 l1_0 x5_1).f2).length c167_2, .int .u64 ((rd_T120 l1_0 x5_1).f3), .int .u64 0, .slice none 0 0]) ?_ 4 _ rfl; (with_reducible repeat (first | refine blk_drewN ?_ _ | refine blk_drew ?_ | refine blk_alloc ?_ _)); refine blk_put (cs := #[.int .u64 ((rd_T120 l1_0 x5_1).f0), .int .u64 ((rd_T120 l1_0 x5_1).f1), .slice A167_2 ((rd_T120 l1_0 x5_1).f2).length c167_2, .int .u64 0, .int .u64 0, .slice none 0 0]) ?_ 3 _ rfl; (with_reducible repeat (first | refine blk_drewN ?_ _ | refine blk_drew ?_ | refine blk_alloc ?_ _)); refine blk_put (cs := #[.int .u64 ((rd_T120 l1_0 x5_1).f0), .int .u64 ((rd_T120 l1_0 x5_1).f1), .slice none 0 0, .int .u64 0, .int .u64 0, .slice none 0 0]) ?_ 2 _ rfl; (with_reducible repeat (first | refine blk_drewN ?_ _ | refine blk_drew ?_ | refine blk_alloc ?_ _)); refine blk_put (cs := #[.int .u64 ((rd_T120 l1_0 x5_1).f0), .int .u64 0, .slice none 0 0, .int .u64 0, .int .u64 0, .slice none 0 0]) ?_ 1 _ rfl; (with_reducible repeat (first | refine blk_drewN ?_ _ | refine blk_drew ?_ | refine blk_alloc ?_ _)); refine blk_put (cs := #[.int .u64 0, .int .u64 0, .slice none 0 0, .int .u64 0, .int .u64 0, .slice none 0 0]) ?_ 0 _ rfl; (with_reducible repeat (first | refine blk_drewN ?_ _ | refine blk_drew ?_ | refine blk_alloc ?_ _)); exact BK168.out⟩, ⟨by repeat (first | (with_reducible first | exact HB.out | apply below_alloc | apply pw_below_drewN | apply below_drew1 | refine below_set ?_ GE163.out | refine below_set ?_ GE164.out | refine below_set ?_ GE166.out | refine below_set ?_ GE168.out) | exact HB.out)⟩⟩
                  · rw [if_neg c26] at H
                    have c26b0 : (((rd_T120 l0_0 x5_1).f1) == ((rd_T120 l1_0 x5_1).f1)) = false := beq_eq_false_iff_ne.mpr c26
                    have c26b1 : (((rd_T120 l0_0 x5_1).f1) != ((rd_T120 l1_0 x5_1).f1)) = true := bne_iff_ne.mpr c26
                    have H' := Aside0.mk H
                    clear H
                    have hnb42 := NB166_163.out
                    have hnc42 := NB163_166.out
                    have hnb43 := NB166_164.out
                    have hnc43 := NB164_166.out
                    have hnb44 := NB166_168.out
                    have hnc44 := NB168_166.out
                    have hcz45_0 : w20.cell? ⟨gb166, 0, none⟩ = some (.int .u64 ((rd_T120 l0_0 x5_1).f0)) := (blk_cell BK166.out 0).trans rfl
                    have hcz45_1 : w20.cell? ⟨gb166, 1, none⟩ = some (.int .u64 ((rd_T120 l0_0 x5_1).f1)) := (blk_cell BK166.out 1).trans rfl
                    have hcz45_2 : w20.cell? ⟨gb166, 2, none⟩ = some (.slice A165_2 ((rd_T120 l0_0 x5_1).f2).length c165_2) := (blk_cell BK166.out 2).trans rfl
                    have hcz45_3 : w20.cell? ⟨gb166, 3, none⟩ = some (.int .u64 ((rd_T120 l0_0 x5_1).f3)) := (blk_cell BK166.out 3).trans rfl
                    have hcz45_4 : w20.cell? ⟨gb166, 4, none⟩ = some (.int .u64 ((rd_T120 l0_0 x5_1).f4)) := (blk_cell BK166.out 4).trans rfl
                    have hcz45_5 : w20.cell? ⟨gb166, 5, none⟩ = some (.slice A165_5 ((rd_T120 l0_0 x5_1).f5).length c165_5) := (blk_cell BK166.out 5).trans rfl
                    have hfz45_0 := blk_frozen BK166.out 0
                    have hfz45_1 := blk_frozen BK166.out 1
                    have hfz45_2 := blk_frozen BK166.out 2
                    have hfz45_3 := blk_frozen BK166.out 3
                    have hfz45_4 := blk_frozen BK166.out 4
                    have hfz45_5 := blk_frozen BK166.out 5
                    have hnb46 := NB168_163.out
                    have hnc46 := NB163_168.out
                    have hnb47 := NB168_164.out
                    have hnc47 := NB164_168.out
                    have hcz48_0 : w20.cell? ⟨gb168, 0, none⟩ = some (.int .u64 0) := (blk_cell BK168.out 0).trans rfl
                    have hcz48_1 : w20.cell? ⟨gb168, 1, none⟩ = some (.int .u64 0) := (blk_cell BK168.out 1).trans rfl
                    have hcz48_2 : w20.cell? ⟨gb168, 2, none⟩ = some (.slice none 0 0) := (blk_cell BK168.out 2).trans rfl
                    have hcz48_3 : w20.cell? ⟨gb168, 3, none⟩ = some (.int .u64 0) := (blk_cell BK168.out 3).trans rfl
                    have hcz48_4 : w20.cell? ⟨gb168, 4, none⟩ = some (.int .u64 0) := (blk_cell BK168.out 4).trans rfl
                    have hcz48_5 : w20.cell? ⟨gb168, 5, none⟩ = some (.slice none 0 0) := (blk_cell BK168.out 5).trans rfl
                    have hfz48_0 := blk_frozen BK168.out 0
                    have hfz48_1 := blk_frozen BK168.out 1
                    have hfz48_2 := blk_frozen BK168.out 2
                    have hfz48_3 := blk_frozen BK168.out 3
                    have hfz48_4 := blk_frozen BK168.out 4
                    have hfz48_5 := blk_frozen BK168.out 5
                    go_wp2
                    go_meet
                    case rel => exact ⟨_, (true), (by first | rfl | (simp; done) | (simp [*]; done)), H', ⟨by have := HK1.out; first | omega | exact Nat.le_refl _⟩, ⟨by (with_reducible repeat (first | refine blk_drewN ?_ _ | refine blk_drew ?_ | refine blk_alloc ?_ _)); refine blk_far ?_ NB163_168.out _; (with_reducible repeat (first | refine blk_drewN ?_ _ | refine blk_drew ?_ | refine blk_alloc ?_ _)); refine blk_far ?_ NB163_168.out _; (with_reducible repeat (first | refine blk_drewN ?_ _ | refine blk_drew ?_ | refine blk_alloc ?_ _)); refine blk_far ?_ NB163_168.out _; (with_reducible repeat (first | refine blk_drewN ?_ _ | refine blk_drew ?_ | refine blk_alloc ?_ _)); refine blk_far ?_ NB163_168.out _; (with_reducible repeat (first | refine blk_drewN ?_ _ | refine blk_drew ?_ | refine blk_alloc ?_ _)); refine blk_far ?_ NB163_168.out _; (with_reducible repeat (first | refine blk_drewN ?_ _ | refine blk_drew ?_ | refine blk_alloc ?_ _)); refine blk_far ?_ NB163_168.out _; (with_reducible repeat (first | refine blk_drewN ?_ _ | refine blk_drew ?_ | refine blk_alloc ?_ _)); exact BK163.out⟩, ⟨by (with_reducible repeat (first | refine blk_drewN ?_ _ | refine blk_drew ?_ | refine blk_alloc ?_ _)); refine blk_far ?_ NB164_168.out _; (with_reducible repeat (first | refine blk_drewN ?_ _ | refine blk_drew ?_ | refine blk_alloc ?_ _)); refine blk_far ?_ NB164_168.out _; (with_reducible repeat (first | refine blk_drewN ?_ _ | refine blk_drew ?_ | refine blk_alloc ?_ _)); refine blk_far ?_ NB164_168.out _; (with_reducible repeat (first | refine blk_drewN ?_ _ | refine blk_drew ?_ | refine blk_alloc ?_ _)); refine blk_far ?_ NB164_168.out _; (with_reducible repeat (first | refine blk_drewN ?_ _ | refine blk_drew ?_ | refine blk_alloc ?_ _)); refine blk_far ?_ NB164_168.out _; (with_reducible repeat (first | refine blk_drewN ?_ _ | refine blk_drew ?_ | refine blk_alloc ?_ _)); refine blk_far ?_ NB164_168.out _; (with_reducible repeat (first | refine blk_drewN ?_ _ | refine blk_drew ?_ | refine blk_alloc ?_ _)); exact BK164.out⟩, ⟨by (with_reducible repeat (first | refine blk_drewN ?_ _ | refine blk_drew ?_ | refine blk_alloc ?_ _)); refine blk_far ?_ NB166_168.out _; (with_reducible repeat (first | refine blk_drewN ?_ _ | refine blk_drew ?_ | refine blk_alloc ?_ _)); refine blk_far ?_ NB166_168.out _; (with_reducible repeat (first | refine blk_drewN ?_ _ | refine blk_drew ?_ | refine blk_alloc ?_ _)); refine blk_far ?_ NB166_168.out _; (with_reducible repeat (first | refine blk_drewN ?_ _ | refine blk_drew ?_ | refine blk_alloc ?_ _)); refine blk_far ?_ NB166_168.out _; (with_reducible repeat (first | refine blk_drewN ?_ _ | refine blk_drew ?_ | refine blk_alloc ?_ _)); refine blk_far ?_ NB166_168.out _; (with_reducible repeat (first | refine blk_drewN ?_ _ | refine blk_drew ?_ | refine blk_alloc ?_ _)); refine blk_far ?_ NB166_168.out _; (with_reducible repeat (first | refine blk_drewN ?_ _ | refine blk_drew ?_ | refine blk_alloc ?_ _)); exact BK166.out⟩, ⟨by (with_reducible repeat (first | refine blk_drewN ?_ _ | refine blk_drew ?_ | refine blk_alloc ?_ _)); refine blk_put (cs := #[.int .u64 ((rd_T120 l1_0 x5_1).f0), .int .u64 ((rd_T120 l1_0 x5_1).f1), .slice A167_2 ((rd_T120 l1_0 x5_1).f2).length c167_2, .int .u64 ((rd_T120 l1_0 x5_1).f3), .int .u64 ((rd_T120 l1_0 x5_1).f4), .slice none 0 0]) ?_ 5 _ rfl; (with_reducible repeat (first | refine blk_drewN ?_ _ | refine blk_drew ?_ | refine blk_alloc ?_ _)); refine blk_put (cs := #[.int .u64 ((rd_T120 l1_0 x5_1).f0), .int .u64 ((rd_T120 l1_0 x5_1).f1), .slice A167_2 ((rd_T120 l1_0 x5_1).f2).length c167_2, .int .u64 ((rd_T120 l1_0 x5_1).f3), .int .u64 0, .slice none 0 0]) ?_ 4 _ rfl; (with_reducible repeat (first | refine blk_drewN ?_ _ | refine blk_drew ?_ | refine blk_alloc ?_ _)); refine blk_put (cs := #[.int .u64 ((rd_T120 l1_0 x5_1).f0), .int .u64 ((rd_T120 l1_0 x5_1).f1), .slice A167_2 ((rd_T120 l1_0 x5_1).f2).length c167_2, .int .u64 0, .int .u64 0, .slice none 0 0]) ?_ 3 _ rfl; (with_reducible repeat (first | refine blk_drewN ?_ _ | refine blk_drew ?_ | refine blk_alloc ?_ _)); refine blk_put (cs := #[.int .u64 ((rd_T120 l1_0 x5_1).f0), .int .u64 ((rd_T120 l1_0 x5_1).f1), .slice none 0 0, .int .u64 0, .int .u64 0, .slice none 0 0]) ?_ 2 _ rfl; (with_reducible repeat (first | refine blk_drewN ?_ _ | refine blk_drew ?_ | refine blk_alloc ?_ _)); refine blk_put (cs := #[.int .u64 ((rd_T120 l1_0 x5_1).f0), .int .u64 0, .slice none 0 0, .int .u64 0, .int .u64 0, .slice none 0 0]) ?_ 1 _ rfl; (with_reducible repeat (first | refine blk_drewN ?_ _ | refine blk_drew ?_ | refine blk_alloc ?_ _)); refine blk_put (cs := #[.int .u64 0, .int .u64 0, .slice none 0 0, .int .u64 0, .int .u64 0, .slice none 0 0]) ?_ 0 _ rfl; (with_reducible repeat (first | refine blk_drewN ?_ _ | refine blk_drew ?_ | refine blk_alloc ?_ _)); exact BK168.out⟩, ⟨by repeat (first | (with_reducible first | exact HB.out | apply below_alloc | apply pw_below_drewN | apply below_drew1 | refine below_set ?_ GE163.out | refine below_set ?_ GE164.out | refine below_set ?_ GE166.out | refine below_set ?_ GE168.out) | exact HB.out)⟩⟩
                · rw [if_neg c25] at H
                  have c25b0 : (((rd_T120 l0_0 x5_1).f0) == ((rd_T120 l1_0 x5_1).f0)) = false := beq_eq_false_iff_ne.mpr c25
                  have c25b1 : (((rd_T120 l0_0 x5_1).f0) != ((rd_T120 l1_0 x5_1).f0)) = true := bne_iff_ne.mpr c25
                  (first | rw [c25b0] | (simp only [i64_w, i32_w]; rw [c25b0]) | skip)
                  have H' := Aside0.mk H
                  clear H
                  have hnb49 := NB166_163.out
                  have hnc49 := NB163_166.out
                  have hnb50 := NB166_164.out
                  have hnc50 := NB164_166.out
                  have hnb51 := NB166_168.out
                  have hnc51 := NB168_166.out
                  have hcz52_0 : w20.cell? ⟨gb166, 0, none⟩ = some (.int .u64 ((rd_T120 l0_0 x5_1).f0)) := (blk_cell BK166.out 0).trans rfl
                  have hcz52_1 : w20.cell? ⟨gb166, 1, none⟩ = some (.int .u64 ((rd_T120 l0_0 x5_1).f1)) := (blk_cell BK166.out 1).trans rfl
                  have hcz52_2 : w20.cell? ⟨gb166, 2, none⟩ = some (.slice A165_2 ((rd_T120 l0_0 x5_1).f2).length c165_2) := (blk_cell BK166.out 2).trans rfl
                  have hcz52_3 : w20.cell? ⟨gb166, 3, none⟩ = some (.int .u64 ((rd_T120 l0_0 x5_1).f3)) := (blk_cell BK166.out 3).trans rfl
                  have hcz52_4 : w20.cell? ⟨gb166, 4, none⟩ = some (.int .u64 ((rd_T120 l0_0 x5_1).f4)) := (blk_cell BK166.out 4).trans rfl
                  have hcz52_5 : w20.cell? ⟨gb166, 5, none⟩ = some (.slice A165_5 ((rd_T120 l0_0 x5_1).f5).length c165_5) := (blk_cell BK166.out 5).trans rfl
                  have hfz52_0 := blk_frozen BK166.out 0
                  have hfz52_1 := blk_frozen BK166.out 1
                  have hfz52_2 := blk_frozen BK166.out 2
                  have hfz52_3 := blk_frozen BK166.out 3
                  have hfz52_4 := blk_frozen BK166.out 4
                  have hfz52_5 := blk_frozen BK166.out 5
                  have hnb53 := NB168_163.out
                  have hnc53 := NB163_168.out
                  have hnb54 := NB168_164.out
                  have hnc54 := NB164_168.out
                  have hcz55_0 : w20.cell? ⟨gb168, 0, none⟩ = some (.int .u64 0) := (blk_cell BK168.out 0).trans rfl
                  have hcz55_1 : w20.cell? ⟨gb168, 1, none⟩ = some (.int .u64 0) := (blk_cell BK168.out 1).trans rfl
                  have hcz55_2 : w20.cell? ⟨gb168, 2, none⟩ = some (.slice none 0 0) := (blk_cell BK168.out 2).trans rfl
                  have hcz55_3 : w20.cell? ⟨gb168, 3, none⟩ = some (.int .u64 0) := (blk_cell BK168.out 3).trans rfl
                  have hcz55_4 : w20.cell? ⟨gb168, 4, none⟩ = some (.int .u64 0) := (blk_cell BK168.out 4).trans rfl
                  have hcz55_5 : w20.cell? ⟨gb168, 5, none⟩ = some (.slice none 0 0) := (blk_cell BK168.out 5).trans rfl
                  have hfz55_0 := blk_frozen BK168.out 0
                  have hfz55_1 := blk_frozen BK168.out 1
                  have hfz55_2 := blk_frozen BK168.out 2
                  have hfz55_3 := blk_frozen BK168.out 3
                  have hfz55_4 := blk_frozen BK168.out 4
                  have hfz55_5 := blk_frozen BK168.out 5
                  go_wp2
                  go_meet
                  case rel => exact ⟨_, (true), (by first | rfl | (simp; done) | (simp [*]; done)), H', ⟨by have := HK1.out; first | omega | exact Nat.le_refl _⟩, ⟨by (with_reducible repeat (first | refine blk_drewN ?_ _ | refine blk_drew ?_ | refine blk_alloc ?_ _)); refine blk_far ?_ NB163_168.out _; (with_reducible repeat (first | refine blk_drewN ?_ _ | refine blk_drew ?_ | refine blk_alloc ?_ _)); refine blk_far ?_ NB163_168.out _; (with_reducible repeat (first | refine blk_drewN ?_ _ | refine blk_drew ?_ | refine blk_alloc ?_ _)); refine blk_far ?_ NB163_168.out _; (with_reducible repeat (first | refine blk_drewN ?_ _ | refine blk_drew ?_ | refine blk_alloc ?_ _)); refine blk_far ?_ NB163_168.out _; (with_reducible repeat (first | refine blk_drewN ?_ _ | refine blk_drew ?_ | refine blk_alloc ?_ _)); refine blk_far ?_ NB163_168.out _; (with_reducible repeat (first | refine blk_drewN ?_ _ | refine blk_drew ?_ | refine blk_alloc ?_ _)); refine blk_far ?_ NB163_168.out _; (with_reducible repeat (first | refine blk_drewN ?_ _ | refine blk_drew ?_ | refine blk_alloc ?_ _)); exact BK163.out⟩, ⟨by (with_reducible repeat (first | refine blk_drewN ?_ _ | refine blk_drew ?_ | refine blk_alloc ?_ _)); refine blk_far ?_ NB164_168.out _; (with_reducible repeat (first | refine blk_drewN ?_ _ | refine blk_drew ?_ | refine blk_alloc ?_ _)); refine blk_far ?_ NB164_168.out _; (with_reducible repeat (first | refine blk_drewN ?_ _ | refine blk_drew ?_ | refine blk_alloc ?_ _)); refine blk_far ?_ NB164_168.out _; (with_reducible repeat (first | refine blk_drewN ?_ _ | refine blk_drew ?_ | refine blk_alloc ?_ _)); refine blk_far ?_ NB164_168.out _; (with_reducible repeat (first | refine blk_drewN ?_ _ | refine blk_drew ?_ | refine blk_alloc ?_ _)); refine blk_far ?_ NB164_168.out _; (with_reducible repeat (first | refine blk_drewN ?_ _ | refine blk_drew ?_ | refine blk_alloc ?_ _)); refine blk_far ?_ NB164_168.out _; (with_reducible repeat (first | refine blk_drewN ?_ _ | refine blk_drew ?_ | refine blk_alloc ?_ _)); exact BK164.out⟩, ⟨by (with_reducible repeat (first | refine blk_drewN ?_ _ | refine blk_drew ?_ | refine blk_alloc ?_ _)); refine blk_far ?_ NB166_168.out _; (with_reducible repeat (first | refine blk_drewN ?_ _ | refine blk_drew ?_ | refine blk_alloc ?_ _)); refine blk_far ?_ NB166_168.out _; (with_reducible repeat (first | refine blk_drewN ?_ _ | refine blk_drew ?_ | refine blk_alloc ?_ _)); refine blk_far ?_ NB166_168.out _; (with_reducible repeat (first | refine blk_drewN ?_ _ | refine blk_drew ?_ | refine blk_alloc ?_ _)); refine blk_far ?_ NB166_168.out _; (with_reducible repeat (first | refine blk_drewN ?_ _ | refine blk_drew ?_ | refine blk_alloc ?_ _)); refine blk_far ?_ NB166_168.out _; (with_reducible repeat (first | refine blk_drewN ?_ _ | refine blk_drew ?_ | refine blk_alloc ?_ _)); refine blk_far ?_ NB166_168.out _; (with_reducible repeat (first | refine blk_drewN ?_ _ | refine blk_drew ?_ | refine blk_alloc ?_ _)); exact BK166.out⟩, ⟨by (with_reducible repeat (first | refine blk_drewN ?_ _ | refine blk_drew ?_ | refine blk_alloc ?_ _)); refine blk_put (cs := #[.int .u64 ((rd_T120 l1_0 x5_1).f0), .int .u64 ((rd_T120 l1_0 x5_1).f1), .slice A167_2 ((rd_T120 l1_0 x5_1).f2).length c167_2, .int .u64 ((rd_T120 l1_0 x5_1).f3), .int .u64 ((rd_T120 l1_0 x5_1).f4), .slice none 0 0]) ?_ 5 _ rfl; (with_reducible repeat (first | refine blk_drewN ?_ _ | refine blk_drew ?_ | refine blk_alloc ?_ _)); refine blk_put (cs := #[.int .u64 ((rd_T120 l1_0 x5_1).f0), .int .u64 ((rd_T120 l1_0 x5_1).f1), .slice A167_2 ((rd_T120 l1_0 x5_1).f2).length c167_2, .int .u64 ((rd_T120 l1_0 x5_1).f3), .int .u64 0, .slice none 0 0]) ?_ 4 _ rfl; (with_reducible repeat (first | refine blk_drewN ?_ _ | refine blk_drew ?_ | refine blk_alloc ?_ _)); refine blk_put (cs := #[.int .u64 ((rd_T120 l1_0 x5_1).f0), .int .u64 ((rd_T120 l1_0 x5_1).f1), .slice A167_2 ((rd_T120 l1_0 x5_1).f2).length c167_2, .int .u64 0, .int .u64 0, .slice none 0 0]) ?_ 3 _ rfl; (with_reducible repeat (first | refine blk_drewN ?_ _ | refine blk_drew ?_ | refine blk_alloc ?_ _)); refine blk_put (cs := #[.int .u64 ((rd_T120 l1_0 x5_1).f0), .int .u64 ((rd_T120 l1_0 x5_1).f1), .slice none 0 0, .int .u64 0, .int .u64 0, .slice none 0 0]) ?_ 2 _ rfl; (with_reducible repeat (first | refine blk_drewN ?_ _ | refine blk_drew ?_ | refine blk_alloc ?_ _)); refine blk_put (cs := #[.int .u64 ((rd_T120 l1_0 x5_1).f0), .int .u64 0, .slice none 0 0, .int .u64 0, .int .u64 0, .slice none 0 0]) ?_ 1 _ rfl; (with_reducible repeat (first | refine blk_drewN ?_ _ | refine blk_drew ?_ | refine blk_alloc ?_ _)); refine blk_put (cs := #[.int .u64 0, .int .u64 0, .slice none 0 0, .int .u64 0, .int .u64 0, .slice none 0 0]) ?_ 0 _ rfl; (with_reducible repeat (first | refine blk_drewN ?_ _ | refine blk_drew ?_ | refine blk_alloc ?_ _)); exact BK168.out⟩, ⟨by repeat (first | (with_reducible first | exact HB.out | apply below_alloc | apply pw_below_drewN | apply below_drew1 | refine below_set ?_ GE163.out | refine below_set ?_ GE164.out | refine below_set ?_ GE166.out | refine below_set ?_ GE168.out) | exact HB.out)⟩⟩
              case rest =>
                clear HC12
                try clear c1
                try clear p1
                try clear q1
                try clear hx1
                try clear c2
                try clear p2
                try clear c3
                try clear c3b0
                try clear c3b1
                try clear c3b2
                try clear c4
                try clear c5
                try clear c6
                try clear c9
                try clear c9b0
                try clear c10
                try clear c10b0
                try clear c11
                try clear c11b0
                try clear c13
                try clear c16
                try clear p16
                try clear q16
                try clear hx16
                try clear c17
                try clear c21
                try clear c22
                try clear c23
                try clear c24
                try clear c25
                try clear c25b0
                try clear c25b1
                try clear c26
                try clear c26b0
                try clear c26b1
                try clear c27
                try clear c27b0
                try clear c27b1
                try clear c28
                try clear c29
                try clear c30
                try clear c32
                try clear c33
                try clear c35
                try clear c36
                try clear c37
                try clear c39
                try clear c40
                try clear c42
                try clear c43
                try clear c44
                try clear c46
                try clear c47
                try clear c49
                try clear c50
                try clear c51
                try clear c53
                try clear c54
                try clear hcz14_0
                try clear hcz18_0
                try clear hcz18_1
                try clear hcz18_2
                try clear hcz18_3
                try clear hcz18_4
                try clear hcz18_5
                try clear hcz19_0
                try clear hcz24_0
                try clear hcz24_1
                try clear hcz24_2
                try clear hcz24_3
                try clear hcz24_4
                try clear hcz24_5
                try clear hcz31_0
                try clear hcz31_1
                try clear hcz31_2
                try clear hcz31_3
                try clear hcz31_4
                try clear hcz31_5
                try clear hcz34_0
                try clear hcz34_1
                try clear hcz34_2
                try clear hcz34_3
                try clear hcz34_4
                try clear hcz34_5
                try clear hcz38_0
                try clear hcz38_1
                try clear hcz38_2
                try clear hcz38_3
                try clear hcz38_4
                try clear hcz38_5
                try clear hcz41_0
                try clear hcz41_1
                try clear hcz41_2
                try clear hcz41_3
                try clear hcz41_4
                try clear hcz41_5
                try clear hcz45_0
                try clear hcz45_1
                try clear hcz45_2
                try clear hcz45_3
                try clear hcz45_4
                try clear hcz45_5
                try clear hcz48_0
                try clear hcz48_1
                try clear hcz48_2
                try clear hcz48_3
                try clear hcz48_4
                try clear hcz48_5
                try clear hcz52_0
                try clear hcz52_1
                try clear hcz52_2
                try clear hcz52_3
                try clear hcz52_4
                try clear hcz52_5
                try clear hcz55_0
                try clear hcz55_1
                try clear hcz55_2
                try clear hcz55_3
                try clear hcz55_4
                try clear hcz55_5
                try clear hcz7_0
                try clear hcz8_0
                try clear hfz14_0
                try clear hfz18_0
                try clear hfz18_1
                try clear hfz18_2
                try clear hfz18_3
                try clear hfz18_4
                try clear hfz18_5
                try clear hfz19_0
                try clear hfz24_0
                try clear hfz24_1
                try clear hfz24_2
                try clear hfz24_3
                try clear hfz24_4
                try clear hfz24_5
                try clear hfz31_0
                try clear hfz31_1
                try clear hfz31_2
                try clear hfz31_3
                try clear hfz31_4
                try clear hfz31_5
                try clear hfz34_0
                try clear hfz34_1
                try clear hfz34_2
                try clear hfz34_3
                try clear hfz34_4
                try clear hfz34_5
                try clear hfz38_0
                try clear hfz38_1
                try clear hfz38_2
                try clear hfz38_3
                try clear hfz38_4
                try clear hfz38_5
                try clear hfz41_0
                try clear hfz41_1
                try clear hfz41_2
                try clear hfz41_3
                try clear hfz41_4
                try clear hfz41_5
                try clear hfz45_0
                try clear hfz45_1
                try clear hfz45_2
                try clear hfz45_3
                try clear hfz45_4
                try clear hfz45_5
                try clear hfz48_0
                try clear hfz48_1
                try clear hfz48_2
                try clear hfz48_3
                try clear hfz48_4
                try clear hfz48_5
                try clear hfz52_0
                try clear hfz52_1
                try clear hfz52_2
                try clear hfz52_3
                try clear hfz52_4
                try clear hfz52_5
                try clear hfz55_0
                try clear hfz55_1
                try clear hfz55_2
                try clear hfz55_3
                try clear hfz55_4
                try clear hfz55_5
                try clear hfz7_0
                try clear hfz8_0
                try clear hx165_0
                try clear hx165_1
                try clear hx165_2
                try clear hx165_3
                try clear hx165_4
                try clear hx165_5
                try clear hx167_0
                try clear hx167_1
                try clear hx167_2
                try clear hx167_3
                try clear hx167_4
                try clear hx167_5
                try clear p165
                try clear p167
                try clear p2
                try clear q165
                try clear q167
                obtain ⟨kq, x59_11, rfl, HA, HJ11, BK163, BK164, BK166, BK168, HB⟩ := hcut
                cases kq with
                | zero => exact absurd HA.out (by simp [shardref10_SameEnd.j1])
                | succ kj11 =>
                  have H := HA.out
                  clear HA
                  simp only [shardref10_SameEnd.j1] at H
                  by_cases c56 : x59_11 = true
                  · subst c56
                    have H1 : (some false) = some r := by rw [if_pos rfl] at H; exact H
                    clear H
                    have H := H1
                    clear H1
                    obtain rfl := Option.some.inj H
                    go_wp2
                    go_ret
                    exact ⟨by first | rfl | (simp [errW_none, errW_some] <;> rfl) | (simp [*, errW_none, errW_some] <;> rfl), by repeat (first | (with_reducible first | exact HB.out | apply below_alloc | apply pw_below_drewN | apply below_drew1 | refine below_set ?_ GE163.out | refine below_set ?_ GE164.out | refine below_set ?_ GE166.out | refine below_set ?_ GE168.out) | exact HB.out)⟩
                  · replace c56 := Bool.eq_false_iff.mpr c56
                    subst c56
                    have H1 : ((shardref10_sameLists.f kj11 ((rd_T120 l0_0 x5_1).f2) ((rd_T120 l1_0 x5_1).f2)).bind fun t169 => ((shardref10_sameFrames.f kj11 ((rd_T120 l0_0 x5_1).f5) ((rd_T120 l1_0 x5_1).f5)).bind fun t170 => (if t169 = true then (if t170 = true then (shardref10_SameEnd.l0 kj11 (wrap64 (x5_1 + 1)) l0_0 l1_0) else (some false)) else (some false)))) = some r := by rw [if_neg (show ¬ (false = true) by decide)] at H; exact H
                    clear H
                    have H := H1
                    clear H1
                    replace H := Option.bind_eq_some_iff.mp H
                    obtain ⟨t169, A570, H⟩ := H
                    replace H : ((shardref10_sameFrames.f kj11 ((rd_T120 l0_0 x5_1).f5) ((rd_T120 l1_0 x5_1).f5)).bind fun t170 => (if t169 = true then (if t170 = true then (shardref10_SameEnd.l0 kj11 (wrap64 (x5_1 + 1)) l0_0 l1_0) else (some false)) else (some false))) = some r := H
                    have A57 := Aside0.mk A570
                    clear A570
                    replace H := Option.bind_eq_some_iff.mp H
                    obtain ⟨t170, A580, H⟩ := H
                    replace H : (if t169 = true then (if t170 = true then (shardref10_SameEnd.l0 kj11 (wrap64 (x5_1 + 1)) l0_0 l1_0) else (some false)) else (some false)) = some r := H
                    have A58 := Aside0.mk A580
                    clear A580
                    by_cases c59 : t169 = true
                    · subst c59
                      have H1 : (if t170 = true then (shardref10_SameEnd.l0 kj11 (wrap64 (x5_1 + 1)) l0_0 l1_0) else (some false)) = some r := by rw [if_pos rfl] at H; exact H
                      clear H
                      have H := H1
                      clear H1
                      by_cases c60 : t170 = true
                      · subst c60
                        have H1 : (shardref10_SameEnd.l0 kj11 (wrap64 (x5_1 + 1)) l0_0 l1_0) = some r := by rw [if_pos rfl] at H; exact H
                        clear H
                        have H := H1
                        clear H1
                        have H' := Aside0.mk H
                        clear H
                        have hnb61 := NB166_163.out
                        have hnc61 := NB163_166.out
                        have hnb62 := NB166_164.out
                        have hnc62 := NB164_166.out
                        have hnb63 := NB166_168.out
                        have hnc63 := NB168_166.out
                        have hcz64_0 : wc.cell? ⟨gb166, 0, none⟩ = some (.int .u64 ((rd_T120 l0_0 x5_1).f0)) := (blk_cell BK166.out 0).trans rfl
                        have hcz64_1 : wc.cell? ⟨gb166, 1, none⟩ = some (.int .u64 ((rd_T120 l0_0 x5_1).f1)) := (blk_cell BK166.out 1).trans rfl
                        have hcz64_2 : wc.cell? ⟨gb166, 2, none⟩ = some (.slice A165_2 ((rd_T120 l0_0 x5_1).f2).length c165_2) := (blk_cell BK166.out 2).trans rfl
                        have hcz64_3 : wc.cell? ⟨gb166, 3, none⟩ = some (.int .u64 ((rd_T120 l0_0 x5_1).f3)) := (blk_cell BK166.out 3).trans rfl
                        have hcz64_4 : wc.cell? ⟨gb166, 4, none⟩ = some (.int .u64 ((rd_T120 l0_0 x5_1).f4)) := (blk_cell BK166.out 4).trans rfl
                        have hcz64_5 : wc.cell? ⟨gb166, 5, none⟩ = some (.slice A165_5 ((rd_T120 l0_0 x5_1).f5).length c165_5) := (blk_cell BK166.out 5).trans rfl
                        have hfz64_0 := blk_frozen BK166.out 0
                        have hfz64_1 := blk_frozen BK166.out 1
                        have hfz64_2 := blk_frozen BK166.out 2
                        have hfz64_3 := blk_frozen BK166.out 3
                        have hfz64_4 := blk_frozen BK166.out 4
                        have hfz64_5 := blk_frozen BK166.out 5
                        have hnb65 := NB168_163.out
                        have hnc65 := NB163_168.out
                        have hnb66 := NB168_164.out
                        have hnc66 := NB164_168.out
                        have hcz67_0 : wc.cell? ⟨gb168, 0, none⟩ = some (.int .u64 ((rd_T120 l1_0 x5_1).f0)) := (blk_cell BK168.out 0).trans rfl
                        have hcz67_1 : wc.cell? ⟨gb168, 1, none⟩ = some (.int .u64 ((rd_T120 l1_0 x5_1).f1)) := (blk_cell BK168.out 1).trans rfl
                        have hcz67_2 : wc.cell? ⟨gb168, 2, none⟩ = some (.slice A167_2 ((rd_T120 l1_0 x5_1).f2).length c167_2) := (blk_cell BK168.out 2).trans rfl
                        have hcz67_3 : wc.cell? ⟨gb168, 3, none⟩ = some (.int .u64 ((rd_T120 l1_0 x5_1).f3)) := (blk_cell BK168.out 3).trans rfl
                        have hcz67_4 : wc.cell? ⟨gb168, 4, none⟩ = some (.int .u64 ((rd_T120 l1_0 x5_1).f4)) := (blk_cell BK168.out 4).trans rfl
                        have hcz67_5 : wc.cell? ⟨gb168, 5, none⟩ = some (.slice A167_5 ((rd_T120 l1_0 x5_1).f5).length c167_5) := (blk_cell BK168.out 5).trans rfl
                        have hfz67_0 := blk_frozen BK168.out 0
                        have hfz67_1 := blk_frozen BK168.out 1
                        have hfz67_2 := blk_frozen BK168.out 2
                        have hfz67_3 := blk_frozen BK168.out 3
                        have hfz67_4 := blk_frozen BK168.out 4
                        have hfz67_5 := blk_frozen BK168.out 5
                        go_wp2_with (first | ((with_reducible refine gate_callee (f := 48) rfl ?_); refine goesL_ (some 64) rfl rfl Tryz.func48 (by kernel_rfl) rfl #[.slice A165_2 ((rd_T120 l0_0 x5_1).f2).length c165_2, .slice A167_2 ((rd_T120 l1_0 x5_1).f2).length c167_2] rfl (by (try simp only [List.map_toArray, List.map_cons, List.map_nil]); first | done | rfl | (simp only [List.length_drop, List.length_take]; rfl)) ?_; (with_reducible refine (shardref10_sameLists.calls kj11 _ _ ((rd_T120 l0_0 x5_1).f2) _ _ ((rd_T120 l1_0 x5_1).f2) true _ ?side1 ?side2 ?side3 ?side4 A57.out).mono ?_); (case side1 => repeat (first | exact (Kd.C_below HR165_2.out HB.out) | (with_reducible refine Kd.C_alloc ?_ _) | (with_reducible refine Kd.C_drewN ?_ _) | (with_reducible refine Kd.C_drew ?_))); (case side2 => exact HC165_2.out); (case side3 => repeat (first | exact (Kd.C_below HR167_2.out HB.out) | (with_reducible refine Kd.C_alloc ?_ _) | (with_reducible refine Kd.C_drewN ?_ _) | (with_reducible refine Kd.C_drew ?_))); (case side4 => exact HC167_2.out); rintro e w' ⟨rfl, ⟨nd, rfl⟩⟩; refine ⟨_, rfl, ?_⟩) | ((with_reducible refine gate_callee (f := 49) rfl ?_); refine goesL_ (some 69) rfl rfl Tryz.func49 (by kernel_rfl) rfl #[.slice A165_5 ((rd_T120 l0_0 x5_1).f5).length c165_5, .slice A167_5 ((rd_T120 l1_0 x5_1).f5).length c167_5] rfl (by (try simp only [List.map_toArray, List.map_cons, List.map_nil]); first | done | rfl | (simp only [List.length_drop, List.length_take]; rfl)) ?_; (with_reducible refine (shardref10_sameFrames.calls kj11 _ _ ((rd_T120 l0_0 x5_1).f5) _ _ ((rd_T120 l1_0 x5_1).f5) true _ ?side1 ?side2 ?side3 ?side4 A58.out).mono ?_); (case side1 => repeat (first | exact (Kd.C_below HR165_5.out (by repeat (first | (with_reducible first | exact HB.out | apply below_alloc | apply pw_below_drewN | apply below_drew1 | refine below_set ?_ GE163.out | refine below_set ?_ GE164.out | refine below_set ?_ GE166.out | refine below_set ?_ GE168.out) | exact HB.out))) | (with_reducible refine Kd.C_alloc ?_ _) | (with_reducible refine Kd.C_drewN ?_ _) | (with_reducible refine Kd.C_drew ?_))); (case side2 => exact HC165_5.out); (case side3 => repeat (first | exact (Kd.C_below HR167_5.out (by repeat (first | (with_reducible first | exact HB.out | apply below_alloc | apply pw_below_drewN | apply below_drew1 | refine below_set ?_ GE163.out | refine below_set ?_ GE164.out | refine below_set ?_ GE166.out | refine below_set ?_ GE168.out) | exact HB.out))) | (with_reducible refine Kd.C_alloc ?_ _) | (with_reducible refine Kd.C_drewN ?_ _) | (with_reducible refine Kd.C_drew ?_))); (case side4 => exact HC167_5.out); rintro e w' ⟨rfl, ⟨nd, rfl⟩⟩; refine ⟨_, rfl, ?_⟩))
                        go_roundg kj11
                        case measure => have := HK1.out; have := HJ11.out; omega
                        case rel => exact ⟨(wrap64 (x5_1 + 1)), (by first | rfl | (simp; done) | (simp [*]; done)), H', ⟨by have := HK1.out; have := HJ11.out; omega⟩, ⟨by (with_reducible repeat (first | refine blk_drewN ?_ _ | refine blk_drew ?_ | refine blk_alloc ?_ _)); exact BK163.out⟩, ⟨by (with_reducible repeat (first | refine blk_drewN ?_ _ | refine blk_drew ?_ | refine blk_alloc ?_ _)); exact BK164.out⟩, ⟨by repeat (first | (with_reducible first | exact HB.out | apply below_alloc | apply pw_below_drewN | apply below_drew1 | refine below_set ?_ GE163.out | refine below_set ?_ GE164.out | refine below_set ?_ GE166.out | refine below_set ?_ GE168.out) | exact HB.out)⟩⟩
                      · replace c60 := Bool.eq_false_iff.mpr c60
                        subst c60
                        have H1 : (some false) = some r := by rw [if_neg (show ¬ (false = true) by decide)] at H; exact H
                        clear H
                        have H := H1
                        clear H1
                        obtain rfl := Option.some.inj H
                        have hnb68 := NB166_163.out
                        have hnc68 := NB163_166.out
                        have hnb69 := NB166_164.out
                        have hnc69 := NB164_166.out
                        have hnb70 := NB166_168.out
                        have hnc70 := NB168_166.out
                        have hcz71_0 : wc.cell? ⟨gb166, 0, none⟩ = some (.int .u64 ((rd_T120 l0_0 x5_1).f0)) := (blk_cell BK166.out 0).trans rfl
                        have hcz71_1 : wc.cell? ⟨gb166, 1, none⟩ = some (.int .u64 ((rd_T120 l0_0 x5_1).f1)) := (blk_cell BK166.out 1).trans rfl
                        have hcz71_2 : wc.cell? ⟨gb166, 2, none⟩ = some (.slice A165_2 ((rd_T120 l0_0 x5_1).f2).length c165_2) := (blk_cell BK166.out 2).trans rfl
                        have hcz71_3 : wc.cell? ⟨gb166, 3, none⟩ = some (.int .u64 ((rd_T120 l0_0 x5_1).f3)) := (blk_cell BK166.out 3).trans rfl
                        have hcz71_4 : wc.cell? ⟨gb166, 4, none⟩ = some (.int .u64 ((rd_T120 l0_0 x5_1).f4)) := (blk_cell BK166.out 4).trans rfl
                        have hcz71_5 : wc.cell? ⟨gb166, 5, none⟩ = some (.slice A165_5 ((rd_T120 l0_0 x5_1).f5).length c165_5) := (blk_cell BK166.out 5).trans rfl
                        have hfz71_0 := blk_frozen BK166.out 0
                        have hfz71_1 := blk_frozen BK166.out 1
                        have hfz71_2 := blk_frozen BK166.out 2
                        have hfz71_3 := blk_frozen BK166.out 3
                        have hfz71_4 := blk_frozen BK166.out 4
                        have hfz71_5 := blk_frozen BK166.out 5
                        have hnb72 := NB168_163.out
                        have hnc72 := NB163_168.out
                        have hnb73 := NB168_164.out
                        have hnc73 := NB164_168.out
                        have hcz74_0 : wc.cell? ⟨gb168, 0, none⟩ = some (.int .u64 ((rd_T120 l1_0 x5_1).f0)) := (blk_cell BK168.out 0).trans rfl
                        have hcz74_1 : wc.cell? ⟨gb168, 1, none⟩ = some (.int .u64 ((rd_T120 l1_0 x5_1).f1)) := (blk_cell BK168.out 1).trans rfl
                        have hcz74_2 : wc.cell? ⟨gb168, 2, none⟩ = some (.slice A167_2 ((rd_T120 l1_0 x5_1).f2).length c167_2) := (blk_cell BK168.out 2).trans rfl
                        have hcz74_3 : wc.cell? ⟨gb168, 3, none⟩ = some (.int .u64 ((rd_T120 l1_0 x5_1).f3)) := (blk_cell BK168.out 3).trans rfl
                        have hcz74_4 : wc.cell? ⟨gb168, 4, none⟩ = some (.int .u64 ((rd_T120 l1_0 x5_1).f4)) := (blk_cell BK168.out 4).trans rfl
                        have hcz74_5 : wc.cell? ⟨gb168, 5, none⟩ = some (.slice A167_5 ((rd_T120 l1_0 x5_1).f5).length c167_5) := (blk_cell BK168.out 5).trans rfl
                        have hfz74_0 := blk_frozen BK168.out 0
                        have hfz74_1 := blk_frozen BK168.out 1
                        have hfz74_2 := blk_frozen BK168.out 2
                        have hfz74_3 := blk_frozen BK168.out 3
                        have hfz74_4 := blk_frozen BK168.out 4
                        have hfz74_5 := blk_frozen BK168.out 5
                        go_wp2_with (first | ((with_reducible refine gate_callee (f := 48) rfl ?_); refine goesL_ (some 64) rfl rfl Tryz.func48 (by kernel_rfl) rfl #[.slice A165_2 ((rd_T120 l0_0 x5_1).f2).length c165_2, .slice A167_2 ((rd_T120 l1_0 x5_1).f2).length c167_2] rfl (by (try simp only [List.map_toArray, List.map_cons, List.map_nil]); first | done | rfl | (simp only [List.length_drop, List.length_take]; rfl)) ?_; (with_reducible refine (shardref10_sameLists.calls kj11 _ _ ((rd_T120 l0_0 x5_1).f2) _ _ ((rd_T120 l1_0 x5_1).f2) true _ ?side1 ?side2 ?side3 ?side4 A57.out).mono ?_); (case side1 => repeat (first | exact (Kd.C_below HR165_2.out HB.out) | (with_reducible refine Kd.C_alloc ?_ _) | (with_reducible refine Kd.C_drewN ?_ _) | (with_reducible refine Kd.C_drew ?_))); (case side2 => exact HC165_2.out); (case side3 => repeat (first | exact (Kd.C_below HR167_2.out HB.out) | (with_reducible refine Kd.C_alloc ?_ _) | (with_reducible refine Kd.C_drewN ?_ _) | (with_reducible refine Kd.C_drew ?_))); (case side4 => exact HC167_2.out); rintro e w' ⟨rfl, ⟨nd, rfl⟩⟩; refine ⟨_, rfl, ?_⟩) | ((with_reducible refine gate_callee (f := 49) rfl ?_); refine goesL_ (some 69) rfl rfl Tryz.func49 (by kernel_rfl) rfl #[.slice A165_5 ((rd_T120 l0_0 x5_1).f5).length c165_5, .slice A167_5 ((rd_T120 l1_0 x5_1).f5).length c167_5] rfl (by (try simp only [List.map_toArray, List.map_cons, List.map_nil]); first | done | rfl | (simp only [List.length_drop, List.length_take]; rfl)) ?_; (with_reducible refine (shardref10_sameFrames.calls kj11 _ _ ((rd_T120 l0_0 x5_1).f5) _ _ ((rd_T120 l1_0 x5_1).f5) false _ ?side1 ?side2 ?side3 ?side4 A58.out).mono ?_); (case side1 => repeat (first | exact (Kd.C_below HR165_5.out (by repeat (first | (with_reducible first | exact HB.out | apply below_alloc | apply pw_below_drewN | apply below_drew1 | refine below_set ?_ GE163.out | refine below_set ?_ GE164.out | refine below_set ?_ GE166.out | refine below_set ?_ GE168.out) | exact HB.out))) | (with_reducible refine Kd.C_alloc ?_ _) | (with_reducible refine Kd.C_drewN ?_ _) | (with_reducible refine Kd.C_drew ?_))); (case side2 => exact HC165_5.out); (case side3 => repeat (first | exact (Kd.C_below HR167_5.out (by repeat (first | (with_reducible first | exact HB.out | apply below_alloc | apply pw_below_drewN | apply below_drew1 | refine below_set ?_ GE163.out | refine below_set ?_ GE164.out | refine below_set ?_ GE166.out | refine below_set ?_ GE168.out) | exact HB.out))) | (with_reducible refine Kd.C_alloc ?_ _) | (with_reducible refine Kd.C_drewN ?_ _) | (with_reducible refine Kd.C_drew ?_))); (case side4 => exact HC167_5.out); rintro e w' ⟨rfl, ⟨nd, rfl⟩⟩; refine ⟨_, rfl, ?_⟩))
                        go_ret
                        exact ⟨by first | rfl | (simp [errW_none, errW_some] <;> rfl) | (simp [*, errW_none, errW_some] <;> rfl), by repeat (first | (with_reducible first | exact HB.out | apply below_alloc | apply pw_below_drewN | apply below_drew1 | refine below_set ?_ GE163.out | refine below_set ?_ GE164.out | refine below_set ?_ GE166.out | refine below_set ?_ GE168.out) | exact HB.out)⟩
                    · replace c59 := Bool.eq_false_iff.mpr c59
                      subst c59
                      have H1 : (some false) = some r := by rw [if_neg (show ¬ (false = true) by decide)] at H; exact H
                      clear H
                      have H := H1
                      clear H1
                      obtain rfl := Option.some.inj H
                      have hnb75 := NB166_163.out
                      have hnc75 := NB163_166.out
                      have hnb76 := NB166_164.out
                      have hnc76 := NB164_166.out
                      have hnb77 := NB166_168.out
                      have hnc77 := NB168_166.out
                      have hcz78_0 : wc.cell? ⟨gb166, 0, none⟩ = some (.int .u64 ((rd_T120 l0_0 x5_1).f0)) := (blk_cell BK166.out 0).trans rfl
                      have hcz78_1 : wc.cell? ⟨gb166, 1, none⟩ = some (.int .u64 ((rd_T120 l0_0 x5_1).f1)) := (blk_cell BK166.out 1).trans rfl
                      have hcz78_2 : wc.cell? ⟨gb166, 2, none⟩ = some (.slice A165_2 ((rd_T120 l0_0 x5_1).f2).length c165_2) := (blk_cell BK166.out 2).trans rfl
                      have hcz78_3 : wc.cell? ⟨gb166, 3, none⟩ = some (.int .u64 ((rd_T120 l0_0 x5_1).f3)) := (blk_cell BK166.out 3).trans rfl
                      have hcz78_4 : wc.cell? ⟨gb166, 4, none⟩ = some (.int .u64 ((rd_T120 l0_0 x5_1).f4)) := (blk_cell BK166.out 4).trans rfl
                      have hcz78_5 : wc.cell? ⟨gb166, 5, none⟩ = some (.slice A165_5 ((rd_T120 l0_0 x5_1).f5).length c165_5) := (blk_cell BK166.out 5).trans rfl
                      have hfz78_0 := blk_frozen BK166.out 0
                      have hfz78_1 := blk_frozen BK166.out 1
                      have hfz78_2 := blk_frozen BK166.out 2
                      have hfz78_3 := blk_frozen BK166.out 3
                      have hfz78_4 := blk_frozen BK166.out 4
                      have hfz78_5 := blk_frozen BK166.out 5
                      have hnb79 := NB168_163.out
                      have hnc79 := NB163_168.out
                      have hnb80 := NB168_164.out
                      have hnc80 := NB164_168.out
                      have hcz81_0 : wc.cell? ⟨gb168, 0, none⟩ = some (.int .u64 ((rd_T120 l1_0 x5_1).f0)) := (blk_cell BK168.out 0).trans rfl
                      have hcz81_1 : wc.cell? ⟨gb168, 1, none⟩ = some (.int .u64 ((rd_T120 l1_0 x5_1).f1)) := (blk_cell BK168.out 1).trans rfl
                      have hcz81_2 : wc.cell? ⟨gb168, 2, none⟩ = some (.slice A167_2 ((rd_T120 l1_0 x5_1).f2).length c167_2) := (blk_cell BK168.out 2).trans rfl
                      have hcz81_3 : wc.cell? ⟨gb168, 3, none⟩ = some (.int .u64 ((rd_T120 l1_0 x5_1).f3)) := (blk_cell BK168.out 3).trans rfl
                      have hcz81_4 : wc.cell? ⟨gb168, 4, none⟩ = some (.int .u64 ((rd_T120 l1_0 x5_1).f4)) := (blk_cell BK168.out 4).trans rfl
                      have hcz81_5 : wc.cell? ⟨gb168, 5, none⟩ = some (.slice A167_5 ((rd_T120 l1_0 x5_1).f5).length c167_5) := (blk_cell BK168.out 5).trans rfl
                      have hfz81_0 := blk_frozen BK168.out 0
                      have hfz81_1 := blk_frozen BK168.out 1
                      have hfz81_2 := blk_frozen BK168.out 2
                      have hfz81_3 := blk_frozen BK168.out 3
                      have hfz81_4 := blk_frozen BK168.out 4
                      have hfz81_5 := blk_frozen BK168.out 5
                      go_wp2_with (first | ((with_reducible refine gate_callee (f := 48) rfl ?_); refine goesL_ (some 64) rfl rfl Tryz.func48 (by kernel_rfl) rfl #[.slice A165_2 ((rd_T120 l0_0 x5_1).f2).length c165_2, .slice A167_2 ((rd_T120 l1_0 x5_1).f2).length c167_2] rfl (by (try simp only [List.map_toArray, List.map_cons, List.map_nil]); first | done | rfl | (simp only [List.length_drop, List.length_take]; rfl)) ?_; (with_reducible refine (shardref10_sameLists.calls kj11 _ _ ((rd_T120 l0_0 x5_1).f2) _ _ ((rd_T120 l1_0 x5_1).f2) false _ ?side1 ?side2 ?side3 ?side4 A57.out).mono ?_); (case side1 => repeat (first | exact (Kd.C_below HR165_2.out HB.out) | (with_reducible refine Kd.C_alloc ?_ _) | (with_reducible refine Kd.C_drewN ?_ _) | (with_reducible refine Kd.C_drew ?_))); (case side2 => exact HC165_2.out); (case side3 => repeat (first | exact (Kd.C_below HR167_2.out HB.out) | (with_reducible refine Kd.C_alloc ?_ _) | (with_reducible refine Kd.C_drewN ?_ _) | (with_reducible refine Kd.C_drew ?_))); (case side4 => exact HC167_2.out); rintro e w' ⟨rfl, ⟨nd, rfl⟩⟩; refine ⟨_, rfl, ?_⟩) | ((with_reducible refine gate_callee (f := 49) rfl ?_); refine goesL_ (some 69) rfl rfl Tryz.func49 (by kernel_rfl) rfl #[.slice A165_5 ((rd_T120 l0_0 x5_1).f5).length c165_5, .slice A167_5 ((rd_T120 l1_0 x5_1).f5).length c167_5] rfl (by (try simp only [List.map_toArray, List.map_cons, List.map_nil]); first | done | rfl | (simp only [List.length_drop, List.length_take]; rfl)) ?_; (with_reducible refine (shardref10_sameFrames.calls kj11 _ _ ((rd_T120 l0_0 x5_1).f5) _ _ ((rd_T120 l1_0 x5_1).f5) t170 _ ?side1 ?side2 ?side3 ?side4 A58.out).mono ?_); (case side1 => repeat (first | exact (Kd.C_below HR165_5.out (by repeat (first | (with_reducible first | exact HB.out | apply below_alloc | apply pw_below_drewN | apply below_drew1 | refine below_set ?_ GE163.out | refine below_set ?_ GE164.out | refine below_set ?_ GE166.out | refine below_set ?_ GE168.out) | exact HB.out))) | (with_reducible refine Kd.C_alloc ?_ _) | (with_reducible refine Kd.C_drewN ?_ _) | (with_reducible refine Kd.C_drew ?_))); (case side2 => exact HC165_5.out); (case side3 => repeat (first | exact (Kd.C_below HR167_5.out (by repeat (first | (with_reducible first | exact HB.out | apply below_alloc | apply pw_below_drewN | apply below_drew1 | refine below_set ?_ GE163.out | refine below_set ?_ GE164.out | refine below_set ?_ GE166.out | refine below_set ?_ GE168.out) | exact HB.out))) | (with_reducible refine Kd.C_alloc ?_ _) | (with_reducible refine Kd.C_drewN ?_ _) | (with_reducible refine Kd.C_drew ?_))); (case side4 => exact HC167_5.out); rintro e w' ⟨rfl, ⟨nd, rfl⟩⟩; refine ⟨_, rfl, ?_⟩))
                      go_ret
                      exact ⟨by first | rfl | (simp [errW_none, errW_some] <;> rfl) | (simp [*, errW_none, errW_some] <;> rfl), by repeat (first | (with_reducible first | exact HB.out | apply below_alloc | apply pw_below_drewN | apply below_drew1 | refine below_set ?_ GE163.out | refine below_set ?_ GE164.out | refine below_set ?_ GE166.out | refine below_set ?_ GE168.out) | exact HB.out)⟩
            · rw [if_neg c11] at H
              exact absurd H (by simp)
          · rw [if_neg c10] at H
            exact absurd H (by simp)
        · rw [if_neg c9] at H
          have c9b0 : decide (x5_1 < (l0_0.length : Int)) = false := decide_eq_false c9
          clear c9
          obtain rfl := Option.some.inj H
          have hnb82 := NB163_164.out
          have hnc82 := NB164_163.out
          have hcz83_0 : wr.cell? ⟨gb163, 0, none⟩ = some (.slice A0_0 l0_0.length c0_0) := (blk_cell BK163.out 0).trans rfl
          have hfz83_0 := blk_frozen BK163.out 0
          go_wp2
          go_ret
          exact ⟨by first | rfl | (simp [errW_none, errW_some] <;> rfl) | (simp [*, errW_none, errW_some] <;> rfl), by repeat (first | (with_reducible first | exact HB.out | apply below_alloc | apply pw_below_drewN | apply below_drew1 | refine below_set ?_ GE163.out | refine below_set ?_ GE164.out) | exact HB.out)⟩
  · rw [if_neg c3] at H
    have c3b0 : ((l0_0.length : Int) == (l1_0.length : Int)) = false := beq_eq_false_iff_ne.mpr c3
    have c3b1 : ((l0_0.length : Int) != (l1_0.length : Int)) = true := bne_iff_ne.mpr c3
    have c3b2 : (l0_0.length == l1_0.length) = false := by first | simpa using c3 | (simp at c3 ⊢; omega)
    obtain rfl := Option.some.inj H
    go_enter Tryz.func24, Tryz.ntmps24
    go_wp2_with (first | ((with_reducible refine gate_dst (N := 2) rfl ?_); refine box_event ?hg (N := 2) ?hd (cs := #[.slice A0_0 l0_0.length c0_0]) (t := 41) ?hr ?_; (case hd => rfl); (case hg => rfl); (case hr => first | (go_simp; done) | (go_simp; rfl)); intro gb163 hg w84 hbox hb; have n0_ := Aside0.mk (below_step (by repeat (first | (with_reducible first | exact HB.out | apply below_alloc | apply pw_below_drewN | apply below_drew1) | exact HB.out)) hb); have n1_ := Aside0.mk (hbox); have n2_ := Aside0.mk ((by rw [hg]; exact (below_size (by repeat (first | (with_reducible first | exact HB.out | apply below_alloc | apply pw_below_drewN | apply below_drew1) | exact HB.out))) : w.heap.size ≤ gb163)); have n3_ := Aside0.mk ((by rw [hg]; exact (below_size (by repeat (first | (with_reducible first | exact HB.out | apply below_alloc | apply pw_below_drewN | apply below_drew1) | exact HB.out))) : w.heap.size ≤ gb163)); clear HB; have HB := n0_; have BK163 := n1_; have GW163 := n2_; have GE163 := n3_; clear n0_ n1_ n2_ n3_; clear hb hbox hg) | ((with_reducible refine gate_dst (N := 3) rfl ?_); refine box_event ?hg (N := 3) ?hd (cs := #[.slice A1_0 l1_0.length c1_0]) (t := 41) ?hr ?_; (case hd => rfl); (case hg => rfl); (case hr => first | (go_simp; done) | (go_simp; rfl)); intro gb164 hg w85 hbox hb; have n0_ := Aside0.mk (blk_below (g := gb163) (o := .cells #[.slice A0_0 l0_0.length c0_0] 41 (0, 0)) (by (with_reducible repeat (first | refine blk_drewN ?_ _ | refine blk_drew ?_ | refine blk_alloc ?_ _)); exact BK163.out) hb); have n1_ := Aside0.mk (below_step (by repeat (first | (with_reducible first | exact HB.out | apply below_alloc | apply pw_below_drewN | apply below_drew1 | refine below_set ?_ GE163.out) | exact HB.out)) hb); have n2_ := Aside0.mk (hbox); have n3_ := Aside0.mk ((by rw [hg]; exact (below_size (by repeat (first | (with_reducible first | exact HB.out | apply below_alloc | apply pw_below_drewN | apply below_drew1 | refine below_set ?_ GE163.out) | exact HB.out))) : w.heap.size ≤ gb164)); have n4_ := Aside0.mk ((by rw [hg]; exact (below_size (by repeat (first | (with_reducible first | exact HB.out | apply below_alloc | apply pw_below_drewN | apply below_drew1 | refine below_set ?_ GE163.out) | exact HB.out))) : w.heap.size ≤ gb164)); have n5_ := Aside0.mk ((by rw [hg]; exact Nat.ne_of_lt (blk_lt (g := gb163) (o := .cells #[.slice A0_0 l0_0.length c0_0] 41 (0, 0)) (by (with_reducible repeat (first | refine blk_drewN ?_ _ | refine blk_drew ?_ | refine blk_alloc ?_ _)); exact BK163.out)) : gb163 ≠ gb164)); have n6_ := Aside0.mk ((by rw [hg]; exact Nat.ne_of_gt (blk_lt (g := gb163) (o := .cells #[.slice A0_0 l0_0.length c0_0] 41 (0, 0)) (by (with_reducible repeat (first | refine blk_drewN ?_ _ | refine blk_drew ?_ | refine blk_alloc ?_ _)); exact BK163.out)) : gb164 ≠ gb163)); clear BK163; clear HB; have BK163 := n0_; have HB := n1_; have BK164 := n2_; have GW164 := n3_; have GE164 := n4_; have NB163_164 := n5_; have NB164_163 := n6_; clear n0_ n1_ n2_ n3_ n4_ n5_ n6_; clear hb hbox hg; have hnb86 := NB163_164.out; have hnc86 := NB164_163.out; have hcz87_0 : w85.cell? ⟨gb163, 0, none⟩ = some (.slice A0_0 l0_0.length c0_0) := (blk_cell BK163.out 0).trans rfl; have hfz87_0 := blk_frozen BK163.out 0; have hcz88_0 : w85.cell? ⟨gb164, 0, none⟩ = some (.slice A1_0 l1_0.length c1_0) := (blk_cell BK164.out 0).trans rfl; have hfz88_0 := blk_frozen BK164.out 0))
    go_ret
    exact ⟨by first | rfl | (simp [errW_none, errW_some] <;> rfl) | (simp [*, errW_none, errW_some] <;> rfl), by repeat (first | (with_reducible first | exact HB.out | apply below_alloc | apply pw_below_drewN | apply below_drew1 | refine below_set ?_ GE163.out | refine below_set ?_ GE164.out) | exact HB.out)⟩

end Go.Proofs.YtcpcllfmepfjgaaGreatDoor.PCoreNil
