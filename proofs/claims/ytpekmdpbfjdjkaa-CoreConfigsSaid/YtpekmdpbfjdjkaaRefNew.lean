/- The document's New of a configuration that may not be: the zero host and 100. Heavy: 3 minutes. -/
import Derived.Test.YtpekmdpbfjdjkaaRefBase
namespace Go.Proofs.Ytpekmdpbfjdjkaa.core
open Go.RowKit Go.Proofs.YtpekmdpbfjdjkaaW.PrintWords Go.Proofs.YtpekmdpbfjdjkaaW.PrintLast Go.Proofs.YtpekmdpbfjdjkaaW.PrintMore Go.Proofs.Ytpekmdpbfjdjkaa.PCoreConfigs
set_option linter.unusedVariables false
set_option linter.unusedSimpArgs false

set_option maxHeartbeats 2000000 in
set_option maxRecDepth 100000 in
theorem refNew_bad (h cl pa bo q wi gr ke mt ne pt tr self : Int) (w : World) (s0 : 0 ≤ self) (hbad : ¬ Good h cl pa bo q wi gr ke mt ne pt tr ∨ h ≤ self) :
    Calls Try.prog 13 #[.agg #[.int .i64 h, .int .i64 cl, .int .i64 pa, .int .i64 bo, .int .i64 q, .int .i64 wi, .int .i64 gr, .int .i64 ke, .int .i64 mt, .int .i64 ne, .int .i64 pt, .int .i64 tr], .int .i64 self] w fun e w' =>
      e = .returned (.tuple #[.agg hostZ.toArray, .int .i64 100]) ∧ Below w.heap.size w w' := by
  have hu := Try.underlying29
  have hu1 := Try.underlying46
  have C1 := Aside0.mk (fun w => chkRef h cl pa bo q wi gr ke mt ne pt tr w)
  have hsn : ¬ self < 0 := by omega
  have hcase : ((if Good h cl pa bo q wi gr ke mt ne pt tr then 0 else 100 : Int) = 100) ∨ ((if Good h cl pa bo q wi gr ke mt ne pt tr then 0 else 100 : Int) = 0 ∧ h ≤ self) := by
    by_cases hg : Good h cl pa bo q wi gr ke mt ne pt tr
    · exact .inr ⟨if_pos hg, hbad.resolve_left (fun k => k hg)⟩
    · exact .inl (if_neg hg)
  generalize (if Good h cl pa bo q wi gr ke mt ne pt tr then 0 else 100 : Int) = r at C1 hcase
  clear hbad
  go_enter Try.func13, Try.ntmps13
  go_wp2_with fail
  refine (C1.out _).mono ?_
  rintro e w1 ⟨rfl, hb⟩
  have hc0 : w1.cell? ⟨w.heap.size, 0, none⟩ = some (.int .i64 h) := (hb.cell (p := ⟨w.heap.size, 0, none⟩) (by simp only [World.size_alloc]; omega)).trans (by simp)
  have hz : w1.heap[w.heap.size + 1]? = some (.cells hostZ.toArray 46 (0, 0)) := by
    refine (hb.block _ (by simp)).trans ?_
    have h9 := heap_new (w.alloc (.cells #[.int .i64 h, .int .i64 cl, .int .i64 pa, .int .i64 bo, .int .i64 q, .int .i64 wi, .int .i64 gr, .int .i64 ke, .int .i64 mt, .int .i64 ne, .int .i64 pt, .int .i64 tr] 29)) (.cells hostZ.toArray 46)
    rw [World.size_alloc] at h9
    exact h9
  have hB1 : Below w.heap.size w w1 := (((Below.refl _ w).alloc (Nat.le_refl _) _).alloc (by simp) _).trans (hb.mono (by simp; omega))
  have HB := Aside0.mk hB1
  have HZ := Aside0.mk hz
  have hz1 : w.heap.size + 1 < w1.heap.size := (Array.getElem?_eq_some_iff.1 hz).1
  clear hb hB1 hz C1
  have key : r ≠ 0 ∨ (r = 0 ∧ self ≥ h) := by omega
  have hh100 : (r != 0 || decide (self ≥ h)) = true := by rcases key with k | ⟨k1, k2⟩ <;> simp [*]
  rcases hcase with rfl | ⟨rfl, hge⟩
  all_goals
    go_wp2_with (refine gate_ (.store 46 (.tmp 4) (.tmp 22)) rfl ?_; refine store_block (u := .agg hostZ.toArray) rfl rfl rfl hostZ ?addr ?ex HZ.out ?eu ?ht rfl ?h1 ?_; (case addr => rfl); (case ex => rfl); (case eu => rfl); (case ht => kernel_rfl); (case h1 => intro q hq; simp only [hostZ, List.mem_cons, List.not_mem_nil, or_false] at hq; rcases hq with rfl | rfl | rfl | rfl | rfl | rfl | rfl | rfl | rfl | rfl | rfl | rfl | rfl | rfl | rfl | rfl | rfl | rfl | rfl <;> rfl); intro W2 hW2 hG2; have HW2 := Aside0.mk hW2; have HG2 := Aside0.mk hG2; clear hW2 hG2)
  all_goals
    refine bodyPost_ret (resHost (cs := hostZ) HW2.out rfl rfl rfl) rfl ⟨rfl, HB.out.grown HG2.out HB.out.size (fun k e => by cases e; omega)⟩
end Go.Proofs.Ytpekmdpbfjdjkaa.core
