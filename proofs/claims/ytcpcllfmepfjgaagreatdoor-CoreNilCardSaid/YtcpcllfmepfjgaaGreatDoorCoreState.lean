/- Core.State of a core that is new. -/
import Derived.Test.YtcpcllfmepfjgaaGreatDoorTail
namespace Go.Proofs.YtcpcllfmepfjgaaGreatDoor.core
open Go.RowKit Go.Proofs.YtcpcllfmepfjgaaGreatDoorW.PrintWords Go.Proofs.YtcpcllfmepfjgaaGreatDoorW.PrintLast Go.Proofs.YtcpcllfmepfjgaaGreatDoorW.PrintMore Go.Proofs.YtcpcllfmepfjgaaGreatDoor.PCoreNil
set_option linter.unusedVariables false
set_option linter.unusedSimpArgs false

set_option maxHeartbeats 4000000 in
set_option maxRecDepth 100000 in
theorem coreState_new (h cl pa bo q wi gr ke mt ne pt tr self : Int) (H B : Nat) (w : World) (hH : H ≤ 16) (hC : CoreAt w h cl pa bo q wi gr ke mt ne pt tr self H B) :
    Calls Tryz.prog 6 #[.pointer (some ⟨B, 0, none⟩)] w fun e w' =>
      ∃ vt vp, e = .returned (.agg #[.int .u8 self, vt, .slice none 0 0, .slice none 0 0, .int .i64 pa, .int .i64 bo, vp]) ∧
        Kd.R k52 52 w' w.heap.size (fun _ => True) vt [⟨0, 18446744073709551615, 0⟩] ∧
        Kd.R k120 120 w' w.heap.size (fun _ => True) vp (List.replicate H z120) ∧ Below w.heap.size w w' := by
  obtain ⟨Bt, Bs, Bm, Be, base, baseT, hB, hT, hS, hM, hE⟩ := hC
  have hu := Tryz.underlying43
  have hu4 := Tryz.underlying41
  have hu2 := Tryz.underlying59
  have c12 : w.cell? ⟨B, 12, none⟩ = some (.int .u8 self) := cell_at hB 12
  have c13 : w.cell? ⟨B, 13, none⟩ = some (.pointer (some ⟨Bt, 0, none⟩)) := cell_at hB 13
  have c14 : w.cell? ⟨B, 14, none⟩ = some (.pointer (some ⟨Bs, 0, none⟩)) := cell_at hB 14
  have c15 : w.cell? ⟨B, 15, none⟩ = some (.pointer (some ⟨Bm, 0, none⟩)) := cell_at hB 15
  have c16 : w.cell? ⟨B, 16, none⟩ = some (.int .i64 pa) := cell_at hB 16
  have c17 : w.cell? ⟨B, 17, none⟩ = some (.int .i64 bo) := cell_at hB 17
  have c18 : w.cell? ⟨B, 18, none⟩ = some (.pointer (some ⟨Be, 0, none⟩)) := cell_at hB 18
  have hBl : B < w.heap.size := (Array.getElem?_eq_some_iff.1 hB).1
  have HR := Aside0.mk (show CoreRest w q wi self H Bt Bs Bm Be base baseT from ⟨hT, hS, hM, hE⟩)
  have HBB := Aside0.mk hB
  clear hB hT hS hM hE
  go_enter Tryz.func6, Tryz.ntmps6
  go_wp2_with fail
  refine wp_any (fun W hW => ?_)
  have g0 := heap_new w (.cells hostZero 43)
  have g1 : W.heap[w.heap.size]? = some (.cells hostZero 43 (0, 0)) := by rw [hW]; exact g0
  have g3 : Below w.heap.size w W := by rw [hW]; exact below_alloc (Below.refl _ _) _
  have d12 := pw_cell_below g3 c12
  have d13 := pw_cell_below g3 c13
  have d14 := pw_cell_below g3 c14
  have d15 := pw_cell_below g3 c15
  have d16 := pw_cell_below g3 c16
  have d17 := pw_cell_below g3 c17
  have d18 := pw_cell_below g3 c18
  have HRW := Aside0.mk (HR.out.below g3)
  have G1 := Aside0.mk g1
  have G3 := Aside0.mk g3
  have hg3 := g3.size
  have WS : ∀ w', Below W.heap.size W w' → (Below W.heap.size W w' ∧ w'.cell? ⟨B, 12, none⟩ = some (.int .u8 self) ∧ w'.cell? ⟨B, 13, none⟩ = some (.pointer (some ⟨Bt, 0, none⟩)) ∧ w'.cell? ⟨B, 16, none⟩ = some (.int .i64 pa) ∧ w'.cell? ⟨B, 17, none⟩ = some (.int .i64 bo) ∧ w'.cell? ⟨B, 18, none⟩ = some (.pointer (some ⟨Be, 0, none⟩))) :=
    fun w' hb => ⟨hb, pw_cell_below hb d12, pw_cell_below hb d13, pw_cell_below hb d16, pw_cell_below hb d17, pw_cell_below hb d18⟩
  have HWS := Aside0.mk WS
  have kk := WS W.drew (below_drew (Below.refl _ _))
  have C1 := Aside0.mk (fun (w' : World) (hb : Below W.heap.size W w') => list_any [(⟨0, 18446744073709551615, 0⟩ : S52)] baseT Bt 8192 w' (by simp) (HRW.out.below hb).1 full_one)
  have C2 := Aside0.mk (fun (w' : World) (hb : Below W.heap.size W w') => endState_new self q wi H base Be w' hH (HRW.out.below hb).2.2.2)
  clear g0 g1 g3 hW c12 c13 c14 c15 c16 c17 c18 WS HR hBl
  go_region_held3 (fun w' => Below W.heap.size W w' ∧ w'.cell? ⟨B, 12, none⟩ = some (.int .u8 self) ∧ w'.cell? ⟨B, 13, none⟩ = some (.pointer (some ⟨Bt, 0, none⟩)) ∧ w'.cell? ⟨B, 16, none⟩ = some (.int .i64 pa) ∧ w'.cell? ⟨B, 17, none⟩ = some (.int .i64 bo) ∧ w'.cell? ⟨B, 18, none⟩ = some (.pointer (some ⟨Be, 0, none⟩)))
    (first | (with_reducible exact HWS.out _ (below_sets7 (And.left hws3) (by omega))) | (with_reducible assumption) | exact kk | exact HWS.out _ (below_alloc (And.left (by assumption)) _) | (refine HWS.out _ (Below.setCell (And.left (by assumption)) ?_ _); dsimp only; omega))
    (first
      | (go_at_call 15; with_reducible (refine (C1.out _ (And.left (by assumption))).mono ?_); rintro e w2 ⟨vt, rfl, hvt, hb⟩; obtain ⟨At, ct, rfl⟩ := Kd.R_slice hvt; simp only [List.length_cons, List.length_nil, Nat.zero_add] at hvt; have hws := HWS.out _ (below_call (And.left (by assumption)) (Below.size (And.left (by assumption))) hb); have HB2 := Aside0.mk hb; have HVT := Aside0.mk hvt; have hz2 := hws.1.size; (try (refine blk_elim (b := W.heap.size) (new_drew W _) hb ?_; intro x1 x2; have X1 := Aside0.mk x1; clear x1)); clear hvt hb)
      | (go_at_call 16; with_reducible (refine (C2.out _ (And.left (by assumption))).mono ?_); rintro e w3 ⟨vp, rfl, hvp, hb⟩; obtain ⟨Ap, cp, rfl⟩ := Kd.R_slice hvp; rw [List.length_replicate] at hvp; have hws3 := HWS.out _ (below_call (And.left (by assumption)) (Below.size (And.left (by assumption))) hb); have HB3 := Aside0.mk hb; have HVP := Aside0.mk hvp; have hz3 := hws3.1.size; have hz4 := hb.size; (try (with_reducible (refine blk_elim (b := w2.heap.size) (heap_new _ _) hb ?_); intro y1 y2; obtain ⟨⟨p0, p1, p2, p3, p4, p5, p6⟩, f0, f1, f2, f3, f4, f5, f6⟩ := cells7 y1; have Y1 := Aside0.mk y1; clear y1)); (try (with_reducible (refine blk_elim X1.out hb ?_); intro z1 z2; obtain ⟨⟨p0, p1, p2, p3, p4, p5, p6⟩, f0, f1, f2, f3, f4, f5, f6⟩ := cells7 z1; have Z1 := Aside0.mk z1; clear z1)); clear hvp hb))
  · refine then_any (fun WT hWT => ?_)
    have hT : Tail W.heap.size W WT w3.heap.size self pa bo (.slice At 1 ct) (.slice Ap H cp) H := by
      rw [hWT]
      exact tail_new hws3.1 hws3.1.size (show W.heap.size ≤ W.drew.heap.size from Nat.le_refl _) hz2 (Kd.R_below HVT.out HB3.out) HVP.out
    have HT := Aside0.mk hT
    have hd14 := pw_cell_below hT.below d14
    have hd15 := pw_cell_below hT.below d15
    have HRT := Aside0.mk (HRW.out.below hT.below)
    have HG1 := Aside0.mk ((hT.below.block _ (Array.getElem?_eq_some_iff.1 G1.out).1).trans G1.out)
    have HB9 := Aside0.mk (G3.out.trans (hT.below.mono hg3))
    clear hT hWT
    go_wp2_with fail
    have hb2 := cell_at HT.out.blk 2
    have hbl := (Array.getElem?_eq_some_iff.1 HT.out.blk).1
    have hf2 := frozen_at HT.out.blk 2
    have W2 : ∀ w', Below WT.heap.size WT w' → (Below WT.heap.size WT w' ∧ w'.cell? ⟨B, 14, none⟩ = some (.pointer (some ⟨Bs, 0, none⟩)) ∧ w'.cell? ⟨w3.heap.size, 2, none⟩ = some (.slice none 0 0) ∧ w'.frozen? ⟨w3.heap.size, 2, none⟩ = false) :=
      fun w' hb => ⟨hb, pw_cell_below hb hd14, pw_cell_below hb hb2, (hb.frozen (p := ⟨w3.heap.size, 2, none⟩) hbl).trans hf2⟩
    have HW2 := Aside0.mk W2
    have HSS := Aside0.mk (fun (w' : World) (hb : Below WT.heap.size WT w') => below_same hb (set_same (j := 2) (v := .slice none 0 0) ((hb.block _ hbl).trans HT.out.blk) rfl))
    have CL := Aside0.mk (fun (w' : World) (hb : Below WT.heap.size WT w') => shelfLen_new Bs w' ((HRT.out.below hb).2.1))
    have CS := Aside0.mk (fun (w' : World) (hb : Below WT.heap.size WT w') => scan_new Bs 0 18446744073709551615 0 w' ((HRT.out.below hb).2.1))
    have kk2 := W2 WT.drew (below_drew (Below.refl _ _))
    clear W2 hb2 hf2 hws hws3 kk HWS C1 C2
    go_region_held3 (fun w' => Below WT.heap.size WT w' ∧ w'.cell? ⟨B, 14, none⟩ = some (.pointer (some ⟨Bs, 0, none⟩)) ∧ w'.cell? ⟨w3.heap.size, 2, none⟩ = some (.slice none 0 0) ∧ w'.frozen? ⟨w3.heap.size, 2, none⟩ = false)
      (first | (with_reducible assumption) | exact kk2 | (with_reducible exact HW2.out _ (HSS.out _ (And.left (by assumption)))))
      (first
        | (go_at_call 18; with_reducible (refine (CL.out _ (And.left (by assumption))).mono ?_); rintro e w4 ⟨rfl, rfl⟩)
        | (go_at_call 17; with_reducible (refine (CS.out _ (And.left (by assumption))).mono ?_); rintro e w5 ⟨rfl, hb⟩; have hws5 := HW2.out _ (below_call (And.left (by assumption)) (Below.size (And.left (by assumption))) hb); have hl5 : w3.heap.size < w5.heap.size := World.block_lt_of_cell? _ _ hws5.2.2.1; clear hb))
    refine then_any (fun W6 h6 => ?_)
    have b6 : Below WT.heap.size WT W6 := by rw [h6]; exact HSS.out _ hws5.1
    have T6 := Aside0.mk (HT.out.move HT.out.le b6)
    have e15 := pw_cell_below b6 hd15
    have HM6 := Aside0.mk (HRT.out.below b6).2.2.1
    have B6 := Aside0.mk b6
    clear h6 b6 hws5 kk2 hd14 hd15 CL CS HSS HW2
    go_wp2_with fail
    refine (collect_new Bm _ HM6.out).mono ?_
    rintro e w7 ⟨rfl, hb7⟩
    have T7 := Aside0.mk (T6.out.move T6.out.le hb7)
    obtain ⟨⟨p0, p1, p2, p3, p4, p5, p6⟩, q3⟩ := And.intro (cells7 T7.out.blk).1 (frozen_at T7.out.blk 3)
    have HR7 := Aside0.mk (((hb7.block _ (Array.getElem?_eq_some_iff.1 ((B6.out.block _ (Array.getElem?_eq_some_iff.1 HG1.out).1).trans HG1.out)).1).trans ((B6.out.block _ (Array.getElem?_eq_some_iff.1 HG1.out).1).trans HG1.out)))
    have B7 := Aside0.mk hb7
    clear hb7
    have T8 := Aside0.mk (T7.out.move T7.out.le (below_same (Below.refl _ w7) (set_same (j := 3) (v := .slice none 0 0) T7.out.blk rfl)))
    have HR8 := Aside0.mk ((set_same (j := 3) (v := .slice none 0 0) T7.out.blk rfl w.heap.size).trans HR7.out)
    go_wp2_with (refine gate_ (.store 43 (.tmp 2) (.tmp 60)) rfl ?_; refine store_block (u := .agg (hostS self pa bo (.slice At 1 ct) (.slice Ap H cp))) rfl rfl rfl (hostS self pa bo (.slice At 1 ct) (.slice Ap H cp)).toList ?addr ?ex HR8.out ?eu ?ht rfl ?h1 ?_; (case addr => rfl); (case ex => rfl); (case eu => rfl); (case ht => kernel_rfl); (case h1 => intro q hq; simp only [hostS, List.mem_cons, List.not_mem_nil, or_false] at hq; rcases hq with rfl | rfl | rfl | rfl | rfl | rfl | rfl <;> rfl); intro W9 hW9 hG9; have HW9 := Aside0.mk hW9; have HG9 := Aside0.mk hG9; clear hW9 hG9)
    have hc9 : W9.heap[w.heap.size]? = some (.cells #[.int .u8 self, .slice At 1 ct, .slice none 0 0, .slice none 0 0, .int .i64 pa, .int .i64 bo, .slice Ap H cp] 43 (0, 0)) := HW9.out
    obtain ⟨⟨s0, s1, s2, s3, s4, s5, s6⟩, -⟩ := cells7 hc9
    clear hc9 p0 p1 p2 p3 p4 p5 p6 q3
    refine bodyPost_ret (by simp [results, go_sem, hu, s0, s1, s2, s3, s4, s5, s6]) rfl ⟨.slice At 1 ct, .slice Ap H cp, rfl, Kd.R_lower (R_other T8.out.rt HR8.out (by decide) HG9.out) hg3, Kd.R_lower (R_other T8.out.rp HR8.out (by decide) HG9.out) hg3, (G3.out.trans (T8.out.below.mono hg3)).grown HG9.out (Nat.le_trans hg3 T8.out.below.size) (fun k e => by cases e; exact Nat.le_refl _)⟩
  · refine then_any (fun WT hWT => ?_)
    have hT : Tail W.heap.size W WT w2.heap.size self pa bo (.slice At 1 ct) (.slice Ap H cp) H := by
      rw [hWT]
      have hz9 : W.heap.size ≤ (w2.heap.size + 1) := by omega
      refine tail_set Y1.out rfl hz2 hws3.1 (show W.heap.size ≤ W.drew.heap.size from Nat.le_refl _) ?_ (Kd.R_below (Kd.R_alloc HVT.out _) HB3.out) HVP.out
      rw [World.size_alloc]; omega
    clear p0 p1 p2 p3 p4 p5 p6 f0 f1 f2 f3 f4 f5 f6
    have HT := Aside0.mk hT
    have hd14 := pw_cell_below hT.below d14
    have hd15 := pw_cell_below hT.below d15
    have HRT := Aside0.mk (HRW.out.below hT.below)
    have HG1 := Aside0.mk ((hT.below.block _ (Array.getElem?_eq_some_iff.1 G1.out).1).trans G1.out)
    have HB9 := Aside0.mk (G3.out.trans (hT.below.mono hg3))
    clear hT hWT
    go_wp2_with fail
    have hb2 := cell_at HT.out.blk 2
    have hbl := (Array.getElem?_eq_some_iff.1 HT.out.blk).1
    have hf2 := frozen_at HT.out.blk 2
    have W2 : ∀ w', Below WT.heap.size WT w' → (Below WT.heap.size WT w' ∧ w'.cell? ⟨B, 14, none⟩ = some (.pointer (some ⟨Bs, 0, none⟩)) ∧ w'.cell? ⟨w2.heap.size, 2, none⟩ = some (.slice none 0 0) ∧ w'.frozen? ⟨w2.heap.size, 2, none⟩ = false) :=
      fun w' hb => ⟨hb, pw_cell_below hb hd14, pw_cell_below hb hb2, (hb.frozen (p := ⟨w2.heap.size, 2, none⟩) hbl).trans hf2⟩
    have HW2 := Aside0.mk W2
    have HSS := Aside0.mk (fun (w' : World) (hb : Below WT.heap.size WT w') => below_same hb (set_same (j := 2) (v := .slice none 0 0) ((hb.block _ hbl).trans HT.out.blk) rfl))
    have CL := Aside0.mk (fun (w' : World) (hb : Below WT.heap.size WT w') => shelfLen_new Bs w' ((HRT.out.below hb).2.1))
    have CS := Aside0.mk (fun (w' : World) (hb : Below WT.heap.size WT w') => scan_new Bs 0 18446744073709551615 0 w' ((HRT.out.below hb).2.1))
    have kk2 := W2 WT.drew (below_drew (Below.refl _ _))
    clear W2 hb2 hf2 hws hws3 kk HWS C1 C2
    go_region_held3 (fun w' => Below WT.heap.size WT w' ∧ w'.cell? ⟨B, 14, none⟩ = some (.pointer (some ⟨Bs, 0, none⟩)) ∧ w'.cell? ⟨w2.heap.size, 2, none⟩ = some (.slice none 0 0) ∧ w'.frozen? ⟨w2.heap.size, 2, none⟩ = false)
      (first | (with_reducible assumption) | exact kk2 | (with_reducible exact HW2.out _ (HSS.out _ (And.left (by assumption)))))
      (first
        | (go_at_call 18; with_reducible (refine (CL.out _ (And.left (by assumption))).mono ?_); rintro e w4 ⟨rfl, rfl⟩)
        | (go_at_call 17; with_reducible (refine (CS.out _ (And.left (by assumption))).mono ?_); rintro e w5 ⟨rfl, hb⟩; have hws5 := HW2.out _ (below_call (And.left (by assumption)) (Below.size (And.left (by assumption))) hb); have hl5 : w2.heap.size < w5.heap.size := World.block_lt_of_cell? _ _ hws5.2.2.1; clear hb))
    refine then_any (fun W6 h6 => ?_)
    have b6 : Below WT.heap.size WT W6 := by rw [h6]; exact HSS.out _ hws5.1
    have T6 := Aside0.mk (HT.out.move HT.out.le b6)
    have e15 := pw_cell_below b6 hd15
    have HM6 := Aside0.mk (HRT.out.below b6).2.2.1
    have B6 := Aside0.mk b6
    clear h6 b6 hws5 kk2 hd14 hd15 CL CS HSS HW2
    go_wp2_with fail
    refine (collect_new Bm _ HM6.out).mono ?_
    rintro e w7 ⟨rfl, hb7⟩
    have T7 := Aside0.mk (T6.out.move T6.out.le hb7)
    obtain ⟨⟨p0, p1, p2, p3, p4, p5, p6⟩, q3⟩ := And.intro (cells7 T7.out.blk).1 (frozen_at T7.out.blk 3)
    have HR7 := Aside0.mk (((hb7.block _ (Array.getElem?_eq_some_iff.1 ((B6.out.block _ (Array.getElem?_eq_some_iff.1 HG1.out).1).trans HG1.out)).1).trans ((B6.out.block _ (Array.getElem?_eq_some_iff.1 HG1.out).1).trans HG1.out)))
    have B7 := Aside0.mk hb7
    clear hb7
    have T8 := Aside0.mk (T7.out.move T7.out.le (below_same (Below.refl _ w7) (set_same (j := 3) (v := .slice none 0 0) T7.out.blk rfl)))
    have HR8 := Aside0.mk ((set_same (j := 3) (v := .slice none 0 0) T7.out.blk rfl w.heap.size).trans HR7.out)
    go_wp2_with (refine gate_ (.store 43 (.tmp 2) (.tmp 60)) rfl ?_; refine store_block (u := .agg (hostS self pa bo (.slice At 1 ct) (.slice Ap H cp))) rfl rfl rfl (hostS self pa bo (.slice At 1 ct) (.slice Ap H cp)).toList ?addr ?ex HR8.out ?eu ?ht rfl ?h1 ?_; (case addr => rfl); (case ex => rfl); (case eu => rfl); (case ht => kernel_rfl); (case h1 => intro q hq; simp only [hostS, List.mem_cons, List.not_mem_nil, or_false] at hq; rcases hq with rfl | rfl | rfl | rfl | rfl | rfl | rfl <;> rfl); intro W9 hW9 hG9; have HW9 := Aside0.mk hW9; have HG9 := Aside0.mk hG9; clear hW9 hG9)
    have hc9 : W9.heap[w.heap.size]? = some (.cells #[.int .u8 self, .slice At 1 ct, .slice none 0 0, .slice none 0 0, .int .i64 pa, .int .i64 bo, .slice Ap H cp] 43 (0, 0)) := HW9.out
    obtain ⟨⟨s0, s1, s2, s3, s4, s5, s6⟩, -⟩ := cells7 hc9
    clear hc9 p0 p1 p2 p3 p4 p5 p6 q3
    refine bodyPost_ret (by simp [results, go_sem, hu, s0, s1, s2, s3, s4, s5, s6]) rfl ⟨.slice At 1 ct, .slice Ap H cp, rfl, Kd.R_lower (R_other T8.out.rt HR8.out (by decide) HG9.out) hg3, Kd.R_lower (R_other T8.out.rp HR8.out (by decide) HG9.out) hg3, (G3.out.trans (T8.out.below.mono hg3)).grown HG9.out (Nat.le_trans hg3 T8.out.below.size) (fun k e => by cases e; exact Nat.le_refl _)⟩
  · refine then_any (fun WT hWT => ?_)
    have hT : Tail W.heap.size W WT W.heap.size self pa bo (.slice At 1 ct) (.slice Ap H cp) H := by
      rw [hWT]
      refine tail_set Z1.out rfl (Nat.le_refl _) hws3.1 ?_ hz2 (Kd.R_below HVT.out HB3.out) HVP.out
      show W.heap.size ≤ (W.alloc _).heap.size
      rw [World.size_alloc]; omega
    clear p0 p1 p2 p3 p4 p5 p6 f0 f1 f2 f3 f4 f5 f6
    have HT := Aside0.mk hT
    have hd14 := pw_cell_below hT.below d14
    have hd15 := pw_cell_below hT.below d15
    have HRT := Aside0.mk (HRW.out.below hT.below)
    have HG1 := Aside0.mk ((hT.below.block _ (Array.getElem?_eq_some_iff.1 G1.out).1).trans G1.out)
    have HB9 := Aside0.mk (G3.out.trans (hT.below.mono hg3))
    clear hT hWT
    go_wp2_with fail
    have hb2 := cell_at HT.out.blk 2
    have hbl := (Array.getElem?_eq_some_iff.1 HT.out.blk).1
    have hf2 := frozen_at HT.out.blk 2
    have W2 : ∀ w', Below WT.heap.size WT w' → (Below WT.heap.size WT w' ∧ w'.cell? ⟨B, 14, none⟩ = some (.pointer (some ⟨Bs, 0, none⟩)) ∧ w'.cell? ⟨W.heap.size, 2, none⟩ = some (.slice none 0 0) ∧ w'.frozen? ⟨W.heap.size, 2, none⟩ = false) :=
      fun w' hb => ⟨hb, pw_cell_below hb hd14, pw_cell_below hb hb2, (hb.frozen (p := ⟨W.heap.size, 2, none⟩) hbl).trans hf2⟩
    have HW2 := Aside0.mk W2
    have HSS := Aside0.mk (fun (w' : World) (hb : Below WT.heap.size WT w') => below_same hb (set_same (j := 2) (v := .slice none 0 0) ((hb.block _ hbl).trans HT.out.blk) rfl))
    have CL := Aside0.mk (fun (w' : World) (hb : Below WT.heap.size WT w') => shelfLen_new Bs w' ((HRT.out.below hb).2.1))
    have CS := Aside0.mk (fun (w' : World) (hb : Below WT.heap.size WT w') => scan_new Bs 0 18446744073709551615 0 w' ((HRT.out.below hb).2.1))
    have kk2 := W2 WT.drew (below_drew (Below.refl _ _))
    clear W2 hb2 hf2 hws hws3 kk HWS C1 C2
    go_region_held3 (fun w' => Below WT.heap.size WT w' ∧ w'.cell? ⟨B, 14, none⟩ = some (.pointer (some ⟨Bs, 0, none⟩)) ∧ w'.cell? ⟨W.heap.size, 2, none⟩ = some (.slice none 0 0) ∧ w'.frozen? ⟨W.heap.size, 2, none⟩ = false)
      (first | (with_reducible assumption) | exact kk2 | (with_reducible exact HW2.out _ (HSS.out _ (And.left (by assumption)))))
      (first
        | (go_at_call 18; with_reducible (refine (CL.out _ (And.left (by assumption))).mono ?_); rintro e w4 ⟨rfl, rfl⟩)
        | (go_at_call 17; with_reducible (refine (CS.out _ (And.left (by assumption))).mono ?_); rintro e w5 ⟨rfl, hb⟩; have hws5 := HW2.out _ (below_call (And.left (by assumption)) (Below.size (And.left (by assumption))) hb); have hl5 : W.heap.size < w5.heap.size := World.block_lt_of_cell? _ _ hws5.2.2.1; clear hb))
    refine then_any (fun W6 h6 => ?_)
    have b6 : Below WT.heap.size WT W6 := by rw [h6]; exact HSS.out _ hws5.1
    have T6 := Aside0.mk (HT.out.move HT.out.le b6)
    have e15 := pw_cell_below b6 hd15
    have HM6 := Aside0.mk (HRT.out.below b6).2.2.1
    have B6 := Aside0.mk b6
    clear h6 b6 hws5 kk2 hd14 hd15 CL CS HSS HW2
    go_wp2_with fail
    refine (collect_new Bm _ HM6.out).mono ?_
    rintro e w7 ⟨rfl, hb7⟩
    have T7 := Aside0.mk (T6.out.move T6.out.le hb7)
    obtain ⟨⟨p0, p1, p2, p3, p4, p5, p6⟩, q3⟩ := And.intro (cells7 T7.out.blk).1 (frozen_at T7.out.blk 3)
    have HR7 := Aside0.mk (((hb7.block _ (Array.getElem?_eq_some_iff.1 ((B6.out.block _ (Array.getElem?_eq_some_iff.1 HG1.out).1).trans HG1.out)).1).trans ((B6.out.block _ (Array.getElem?_eq_some_iff.1 HG1.out).1).trans HG1.out)))
    have B7 := Aside0.mk hb7
    clear hb7
    have T8 := Aside0.mk (T7.out.move T7.out.le (below_same (Below.refl _ w7) (set_same (j := 3) (v := .slice none 0 0) T7.out.blk rfl)))
    have HR8 := Aside0.mk ((set_same (j := 3) (v := .slice none 0 0) T7.out.blk rfl w.heap.size).trans HR7.out)
    go_wp2_with (refine gate_ (.store 43 (.tmp 2) (.tmp 60)) rfl ?_; refine store_block (u := .agg (hostS self pa bo (.slice At 1 ct) (.slice Ap H cp))) rfl rfl rfl (hostS self pa bo (.slice At 1 ct) (.slice Ap H cp)).toList ?addr ?ex HR8.out ?eu ?ht rfl ?h1 ?_; (case addr => rfl); (case ex => rfl); (case eu => rfl); (case ht => kernel_rfl); (case h1 => intro q hq; simp only [hostS, List.mem_cons, List.not_mem_nil, or_false] at hq; rcases hq with rfl | rfl | rfl | rfl | rfl | rfl | rfl <;> rfl); intro W9 hW9 hG9; have HW9 := Aside0.mk hW9; have HG9 := Aside0.mk hG9; clear hW9 hG9)
    have hc9 : W9.heap[w.heap.size]? = some (.cells #[.int .u8 self, .slice At 1 ct, .slice none 0 0, .slice none 0 0, .int .i64 pa, .int .i64 bo, .slice Ap H cp] 43 (0, 0)) := HW9.out
    obtain ⟨⟨s0, s1, s2, s3, s4, s5, s6⟩, -⟩ := cells7 hc9
    clear hc9 p0 p1 p2 p3 p4 p5 p6 q3
    refine bodyPost_ret (by simp [results, go_sem, hu, s0, s1, s2, s3, s4, s5, s6]) rfl ⟨.slice At 1 ct, .slice Ap H cp, rfl, Kd.R_lower (R_other T8.out.rt HR8.out (by decide) HG9.out) hg3, Kd.R_lower (R_other T8.out.rp HR8.out (by decide) HG9.out) hg3, (G3.out.trans (T8.out.below.mono hg3)).grown HG9.out (Nat.le_trans hg3 T8.out.below.size) (fun k e => by cases e; exact Nat.le_refl _)⟩
end Go.Proofs.YtcpcllfmepfjgaaGreatDoor.core
