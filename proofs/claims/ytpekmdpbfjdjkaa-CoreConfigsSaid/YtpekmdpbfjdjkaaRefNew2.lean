/- The document's New of a configuration that may be: the host at the start. -/
import Derived.Test.YtpekmdpbfjdjkaaRefBase
import Derived.Test.YtpekmdpbfjdjkaaEndState
import Derived.Test.YtpekmdpbfjdjkaaTail
namespace Go.Proofs.Ytpekmdpbfjdjkaa.core
open Go.RowKit Go.Proofs.YtpekmdpbfjdjkaaW.PrintWords Go.Proofs.YtpekmdpbfjdjkaaW.PrintLast Go.Proofs.YtpekmdpbfjdjkaaW.PrintMore Go.Proofs.Ytpekmdpbfjdjkaa.PCoreConfigs
set_option linter.unusedVariables false
set_option linter.unusedSimpArgs false


theorem refGrown {w w1 wm : World} {A B C Z : Array Value} (hg : ((w1.alloc (.cells A 44)).alloc (.cells B 79)).grownBy wm none) (hb : Below w.heap.size w w1)
    (hc : w1.heap[w.heap.size]? = some (.cells C 29 (0, 0))) (hz : w1.heap[w.heap.size + 1]? = some (.cells Z 46 (0, 0))) (hz1 : w.heap.size + 1 < w1.heap.size) :
    wm.heap[w1.heap.size]? = some (.cells A 44 (0, 0)) ∧ wm.heap[w1.heap.size + 1]? = some (.cells B 79 (0, 0)) ∧ wm.heap[w.heap.size]? = some (.cells C 29 (0, 0)) ∧
      (wm.heap[w.heap.size + 1]? = some (.cells Z 46 (0, 0)) ∧ Below w.heap.size w wm ∧ w1.heap.size + 2 ≤ wm.heap.size) := by
  have e : ((w1.alloc (.cells A 44)).alloc (.cells B 79)).heap.size = w1.heap.size + 2 := by simp [World.size_alloc]
  have k : ∀ i, i < w1.heap.size + 2 → wm.heap[i]? = ((w1.alloc (.cells A 44)).alloc (.cells B 79)).heap[i]? := fun i hi => hg.block i (by omega) (by simp)
  have k1 : ∀ i, i < w1.heap.size → wm.heap[i]? = w1.heap[i]? := fun i hi => (k i (by omega)).trans ((Below.heap_alloc _ _ _ (by simp; omega)).trans (Below.heap_alloc _ _ _ hi))
  refine ⟨(k _ (by omega)).trans ((Below.heap_alloc _ _ _ (by simp)).trans (heap_new w1 _)), ?_, (k1 _ (by omega)).trans hc, (k1 _ hz1).trans hz, ?_, by have := hg.size; omega⟩
  · have h := heap_new (w1.alloc (.cells A 44)) (.cells B 79)
    rw [World.size_alloc] at h
    exact (k _ (by omega)).trans h
  · exact ((hb.alloc hb.size _).alloc (by simp; have := hb.size; omega) _).grown hg (by rw [e]; have := hb.size; omega) (fun k e => by cases e)
theorem cells12 {W : World} {b : Nat} {v0 v1 v2 v3 v4 v5 v6 v7 v8 v9 v10 v11 : Value} {t : TypeId} (h : W.heap[b]? = some (.cells #[v0, v1, v2, v3, v4, v5, v6, v7, v8, v9, v10, v11] t (0, 0))) :
    W.cell? ⟨b, 0, none⟩ = some v0 ∧ W.cell? ⟨b, 1, none⟩ = some v1 ∧ W.cell? ⟨b, 2, none⟩ = some v2 ∧ W.cell? ⟨b, 3, none⟩ = some v3 ∧ W.cell? ⟨b, 4, none⟩ = some v4 ∧ W.cell? ⟨b, 5, none⟩ = some v5 ∧ W.cell? ⟨b, 6, none⟩ = some v6 ∧ W.cell? ⟨b, 7, none⟩ = some v7 ∧ W.cell? ⟨b, 8, none⟩ = some v8 ∧ W.cell? ⟨b, 9, none⟩ = some v9 ∧ W.cell? ⟨b, 10, none⟩ = some v10 ∧ W.cell? ⟨b, 11, none⟩ = some v11 :=
  ⟨cell_at h 0, cell_at h 1, cell_at h 2, cell_at h 3, cell_at h 4, cell_at h 5, cell_at h 6, cell_at h 7, cell_at h 8, cell_at h 9, cell_at h 10, cell_at h 11⟩

set_option maxHeartbeats 4000000 in
set_option maxRecDepth 100000 in
theorem refNew_good (h cl pa bo q wi gr ke mt ne pt tr self : Int) (H : Nat) (w : World) (s0 : 0 ≤ self) (s1 : self < h) (hH : h = (H : Int)) (hg : Good h cl pa bo q wi gr ke mt ne pt tr) :
    Calls Try.prog 13 #[.agg #[.int .i64 h, .int .i64 cl, .int .i64 pa, .int .i64 bo, .int .i64 q, .int .i64 wi, .int .i64 gr, .int .i64 ke, .int .i64 mt, .int .i64 ne, .int .i64 pt, .int .i64 tr], .int .i64 self] w fun e w' =>
      ∃ vt vp, e = .returned (.tuple #[.agg (hostV h cl pa bo q wi gr ke mt ne pt tr self vt vp).toArray, .int .i64 0]) ∧
        Kd.R k79 79 w' w.heap.size (fun _ => True) vt [⟨0, 18446744073709551615, 0⟩] ∧
        Kd.R k122 122 w' w.heap.size (fun _ => True) vp (List.replicate H z122) ∧ Below w.heap.size w w' := by
  have hu := Try.underlying29
  have hu1 := Try.underlying46
  have hu2 := Try.underlying44
  have C1 := Aside0.mk (fun w => chkRef h cl pa bo q wi gr ke mt ne pt tr w)
  rw [if_pos hg] at C1
  have h16 : h ≤ 16 := hg.1.1.2
  have hsn : ¬ self < 0 := by omega
  have hsh : ¬ h ≤ self := by omega
  have hw8 : IntKind.u8.wrap self = self := by rw [IntKind.wrap_u8]; omega
  obtain ⟨i0, hi, hz0, hzz1, hz2⟩ := info_parts infoPS
  clear hg
  subst hH
  go_enter Try.func13, Try.ntmps13
  go_wp2_with fail
  refine (C1.out _).mono ?_
  rintro e w1 ⟨rfl, hb⟩
  have hcb := (hb.block w.heap.size (by simp only [World.size_alloc]; omega)).trans ((Below.heap_alloc _ _ _ (by simp)).trans (heap_new w _))
  have c0 : w1.cell? ⟨w.heap.size, 0, none⟩ = some (.int .i64 (H : Int)) := cell_at hcb 0
  have c2 : w1.cell? ⟨w.heap.size, 2, none⟩ = some (.int .i64 pa) := cell_at hcb 2
  have c3 : w1.cell? ⟨w.heap.size, 3, none⟩ = some (.int .i64 bo) := cell_at hcb 3
  have hz : w1.heap[w.heap.size + 1]? = some (.cells hostZ.toArray 46 (0, 0)) := by
    refine (hb.block _ (by simp)).trans ?_
    have h9 := heap_new (w.alloc (.cells #[.int .i64 (H : Int), .int .i64 cl, .int .i64 pa, .int .i64 bo, .int .i64 q, .int .i64 wi, .int .i64 gr, .int .i64 ke, .int .i64 mt, .int .i64 ne, .int .i64 pt, .int .i64 tr] 29)) (.cells hostZ.toArray 46)
    rw [World.size_alloc] at h9
    exact h9
  have hB1 : Below w.heap.size w w1 := (((Below.refl _ w).alloc (Nat.le_refl _) _).alloc (by simp) _).trans (hb.mono (by simp; omega))
  have HB := Aside0.mk hB1
  have HZ := Aside0.mk hz
  have HCB := Aside0.mk hcb
  have hz1 : w.heap.size + 1 < w1.heap.size := (Array.getElem?_eq_some_iff.1 hz).1
  have c0' : ∀ A B, ((w1.alloc A).alloc B).cell? ⟨w.heap.size, 0, none⟩ = some (.int .i64 (H : Int)) := fun A B => pw_cell_below (below_alloc (below_alloc (Below.refl _ _) A) B) c0
  clear hb hB1 hz C1 hcb
  go_wp2_with (first | (at_make; refine wpList_make_full _ rfl _ _ 40 rfl w1.heap.size 122 i0 _ 6 Try.underlying40 hi hz0 hzz1 _ _ _ _ H rfl rfl rfl rfl ?b2 ?b3 ?b4 ?_; (case b2 => rw [hz2]; omega); (case b3 => unfold maxLen; omega); (case b4 => simp; omega); intro wm hown hgrow; have HOWN := Aside0.mk hown; have HGR := Aside0.mk hgrow; clear hown hgrow; obtain ⟨f1, f2, f3, f4⟩ := refGrown HGR.out HB.out HCB.out HZ.out hz1; obtain ⟨⟨p0, p1, p2, p3, p4, p5, p6⟩, q0, q1, q2, q3, q4, q5, q6⟩ := cells7 f1; have F1 := Aside0.mk f1; have F2 := Aside0.mk f2; have F3 := Aside0.mk f3; have F4 := Aside0.mk f4; obtain ⟨d0, d1, d2, d3, d4, d5, d6, d7, d8, d9, d10, d11⟩ := cells12 f3; have HZ6 := Aside0.mk ((Below.heap_setCell wm ⟨w1.heap.size, 6, none⟩ (.slice (some ⟨w1.heap.size + 1 + 1, 0, none⟩) H H) (w.heap.size + 1) (by show w.heap.size + 1 ≠ w1.heap.size; omega)).trans f4.1); clear f1 f2 f3 f4 c0' c0 c2 c3) | (refine gate_ (.store 46 (.tmp 4) (.tmp 40)) rfl ?_; refine store_block (u := .agg (hostV (H : Int) cl pa bo q wi gr ke mt ne pt tr self (.slice (some ⟨w1.heap.size + 1, 0, none⟩) 1 1) (.slice (some ⟨w1.heap.size + 1 + 1, 0, none⟩) H H)).toArray) rfl rfl rfl (hostV (H : Int) cl pa bo q wi gr ke mt ne pt tr self (.slice (some ⟨w1.heap.size + 1, 0, none⟩) 1 1) (.slice (some ⟨w1.heap.size + 1 + 1, 0, none⟩) H H)) ?addr ?ex HZ6.out ?eu ?ht rfl ?h1 ?_; (case addr => rfl); (case ex => rfl); (case eu => rfl); (case ht => kernel_rfl); (case h1 => intro q hq; simp only [hostV, List.mem_cons, List.not_mem_nil, or_false] at hq; rcases hq with rfl | rfl | rfl | rfl | rfl | rfl | rfl | rfl | rfl | rfl | rfl | rfl | rfl | rfl | rfl | rfl | rfl | rfl | rfl <;> rfl); intro W9 hW9 hG9; have HW9 := Aside0.mk hW9; have HG9 := Aside0.mk hG9; clear hW9 hG9))
  have hrt : Kd.R k79 79 wm w.heap.size (fun _ => True) (.slice (some ⟨w1.heap.size + 1, 0, none⟩) 1 1) [⟨0, 18446744073709551615, 0⟩] := by
    refine ⟨fun _ _ => trivial, [.int .u64 0, .int .u64 18446744073709551615, .int .u8 0], ⟨rfl, .inr ⟨w1.heap.size + 1, 1, _, rfl, by omega, F2.out, by simp, by simp [maxLen], by rfl, rfl⟩⟩, rfl, ?_⟩
    intro j p hj
    match j, hj with
    | 0, hj =>
      obtain rfl : (⟨0, 18446744073709551615, 0⟩ : S79) = p := by simpa using hj
      exact k79_mkM _ _ _ ⟨0, 18446744073709551615, 0⟩
  have hrp : Kd.R k122 122 wm w.heap.size (fun _ => True) (.slice (some ⟨w1.heap.size + 1 + 1, 0, none⟩) H H) (List.replicate H z122) :=
    ⟨fun _ _ => trivial, _, by rw [List.length_replicate]; have h := HOWN.out; simp only [World.size_alloc] at h; exact own_weaken h (by omega), Kd.reps_made (z := .agg #[.int .u64 0, .int .u64 0, .slice none 0 0, .int .u64 0, .int .u64 0, .slice none 0 0]) rfl (by decide) (k122_mkM _ _ _ z122 (Kd.R_nil _ _ _ _ _) (Kd.R_nil _ _ _ _ _)) H⟩
  have hg6 : wm.grownBy (wm.setCell ⟨w1.heap.size, 6, none⟩ (.slice (some ⟨w1.heap.size + 1 + 1, 0, none⟩) H H)) (some w1.heap.size) := setCells_grown wm w1.heap.size 6 [.slice (some ⟨w1.heap.size + 1 + 1, 0, none⟩) H H]
  have hbm := F4.out.2.1
  refine bodyPost_ret (resHost (cs := (hostV (H : Int) cl pa bo q wi gr ke mt ne pt tr self (.slice (some ⟨w1.heap.size + 1, 0, none⟩) 1 1) (.slice (some ⟨w1.heap.size + 1 + 1, 0, none⟩) H H))) HW9.out rfl rfl rfl) rfl ⟨.slice (some ⟨w1.heap.size + 1, 0, none⟩) 1 1, .slice (some ⟨w1.heap.size + 1 + 1, 0, none⟩) H H, rfl, R_other (R_other hrt F1.out (by decide) hg6) HZ6.out (by decide) HG9.out, R_other (R_other hrp F1.out (by decide) hg6) HZ6.out (by decide) HG9.out, (hbm.grown hg6 hbm.size (fun k e => by cases e; omega)).grown HG9.out (Nat.le_trans hbm.size hg6.size) (fun k e => by cases e; omega)⟩
end Go.Proofs.Ytpekmdpbfjdjkaa.core
