/- CoreConfigs, walked: of a configuration that may not be, and of one that may be. -/
import Derived.Test.YtpekmdpbfjdjkaaCoreState
import Derived.Test.YtpekmdpbfjdjkaaRefNew
import Derived.Test.YtpekmdpbfjdjkaaRefNew2
import Derived.Test.YtpekmdpbfjdjkaaSame
namespace Go.Proofs.Ytpekmdpbfjdjkaa.core
open Go.RowKit Go.Proofs.YtpekmdpbfjdjkaaW.PrintWords Go.Proofs.YtpekmdpbfjdjkaaW.PrintLast Go.Proofs.YtpekmdpbfjdjkaaW.PrintMore Go.Proofs.Ytpekmdpbfjdjkaa.PCoreConfigs
set_option linter.unusedVariables false
set_option linter.unusedSimpArgs false

theorem keep {w w' : World} {b : Nat} {o : Obj} (h : w.heap[b]? = some o) (hb : Below w.heap.size w w') : w'.heap[b]? = some o := (hb.block b (Array.getElem?_eq_some_iff.1 h).1).trans h

set_option maxHeartbeats 4000000 in
set_option maxRecDepth 100000 in
theorem law_bad (h cl pa bo q wi gr ke mt ne pt tr self : Int) (w : World) (s0 : 0 ≤ self) (s1 : self ≤ 255) (hbad : ¬ Good h cl pa bo q wi gr ke mt ne pt tr ∨ h ≤ self) :
    Calls Try.prog 4 #[.agg #[.int .i64 h, .int .i64 cl, .int .i64 pa, .int .i64 bo, .int .i64 q, .int .i64 wi, .int .i64 gr, .int .i64 ke, .int .i64 mt, .int .i64 ne, .int .i64 pt, .int .i64 tr], .int .u8 self] w fun e w' =>
      e = .returned (.bool true) ∧ Below w.heap.size w w' := by
  have hu := Try.underlying29
  have hu1 := Try.underlying46
  have C1 := Aside0.mk (fun w => checkCfg h cl pa bo q wi gr ke mt ne pt tr w)
  have C2 := Aside0.mk (fun w => chkRef h cl pa bo q wi gr ke mt ne pt tr w)
  have C3 := Aside0.mk (fun w => coreNew_bad h cl pa bo q wi gr ke mt ne pt tr self w s0 s1 hbad)
  have C4 := Aside0.mk (fun w => refNew_bad h cl pa bo q wi gr ke mt ne pt tr self w s0 hbad)
  generalize (if Good h cl pa bo q wi gr ke mt ne pt tr then 0 else 100 : Int) = r at C1 C2
  clear hbad
  go_enter Try.func4, Try.ntmps4
  go_wp2_with fail
  refine (C1.out _).mono ?_
  rintro e w1 ⟨rfl, hb1⟩
  have f1 := keep (heap_new w _) hb1
  have B1 := Aside0.mk (((Below.refl _ w).alloc (Nat.le_refl _) _).trans (hb1.mono (by simp)))
  obtain ⟨d0, d1, d2, d3, d4, d5, d6, d7, d8, d9, d10, d11⟩ := cells12 f1
  have F1 := Aside0.mk f1
  clear f1 hb1
  go_wp2_with fail
  clear d0 d1 d2 d3 d4 d5 d6 d7 d8 d9 d10 d11
  refine (C2.out _).mono ?_
  rintro e w2 ⟨rfl, hb2⟩
  have f2 := keep F1.out hb2
  have B2 := Aside0.mk (B1.out.trans (hb2.mono B1.out.size))
  obtain ⟨d0, d1, d2, d3, d4, d5, d6, d7, d8, d9, d10, d11⟩ := cells12 f2
  have F2 := Aside0.mk f2
  clear f2 hb2 B1 F1
  go_wp2_with fail
  refine (shardlaw10_num.calls r r _ rfl).mono ?_
  rintro e w3 ⟨rfl, ⟨n3, rfl⟩⟩
  go_wp2_with fail
  clear d0 d1 d2 d3 d4 d5 d6 d7 d8 d9 d10 d11
  refine (C3.out _).mono ?_
  rintro e w4 ⟨rfl, hb4⟩
  have f4 := keep (w := w2.drewN n3) (w' := w4) F2.out hb4
  have B4 := Aside0.mk ((B2.out.trans (pw_below_drewN (Below.refl _ _) n3)).trans (hb4.mono B2.out.size))
  obtain ⟨d0, d1, d2, d3, d4, d5, d6, d7, d8, d9, d10, d11⟩ := cells12 f4
  have F4 := Aside0.mk f4
  clear f4 hb4 B2 F2
  go_wp2_with fail
  clear d0 d1 d2 d3 d4 d5 d6 d7 d8 d9 d10 d11
  refine (C4.out _).mono ?_
  rintro e w5 ⟨rfl, hb5⟩
  have B5 := Aside0.mk (B4.out.trans (hb5.mono B4.out.size))
  clear hb5 B4 F4
  have hL1 : hostZ.length = 19 := rfl
  have hL2 : ∀ q ∈ hostZ, q.oneCell' = true := by intro q hq; simp only [hostZ, List.mem_cons, List.not_mem_nil, or_false] at hq; rcases hq with rfl | rfl | rfl | rfl | rfl | rfl | rfl | rfl | rfl | rfl | rfl | rfl | rfl | rfl | rfl | rfl | rfl | rfl | rfl <;> rfl
  have HO := Aside0.mk (heap_new w5 (.cells hostZ.toArray 46))
  have HB9 := Aside0.mk (B5.out.alloc B5.out.size (.cells hostZ.toArray 46))
  have HS := Aside0.mk B5.out.size
  generalize hostZ = L at hL1 hL2 ⊢
  have hL := Aside0.mk (And.intro hL1 hL2)
  clear hL1 hL2
  go_wp2_with (first | (refine gate_ (.store 46 (.tmp 9) (.tmp 31)) rfl ?_; refine store_block (u := .agg L.toArray) rfl rfl rfl L ?addr ?ex HO.out ?eu ?ht ?hf ?h1 ?_; (case hf => exact hL.out.1); (case addr => rfl); (case ex => rfl); (case eu => rfl); (case ht => rw [hL.out.1]; kernel_rfl); (case h1 => exact hL.out.2); intro W9 hW9 hG9; have HW9 := Aside0.mk hW9; have HG9 := Aside0.mk hG9; clear hW9 hG9))
  refine (shardlaw10_num.calls 100 100 _ rfl).mono ?_
  rintro e w6 ⟨rfl, ⟨n6, rfl⟩⟩
  go_wp2_with fail
  go_ret
  exact ⟨rfl, (HB9.out.grown HG9.out (by have := HS.out; simp only [World.size_alloc]; omega) (fun k e => by cases e; exact HS.out)).trans (pw_below_drewN (Below.refl _ _) n6)⟩
end Go.Proofs.Ytpekmdpbfjdjkaa.core
