/- CoreConfigs, walked: of a configuration that may be. -/
import Derived.Test.YtpekmdpbfjdjkaaWalkCoreConfigs
namespace Go.Proofs.Ytpekmdpbfjdjkaa.core
open Go.RowKit Go.Proofs.YtpekmdpbfjdjkaaW.PrintWords Go.Proofs.YtpekmdpbfjdjkaaW.PrintLast Go.Proofs.YtpekmdpbfjdjkaaW.PrintMore Go.Proofs.Ytpekmdpbfjdjkaa.PCoreConfigs
set_option linter.unusedVariables false
set_option linter.unusedSimpArgs false

theorem CoreAt.below {W W' : World} {h cl pa bo q wi gr ke mt ne pt tr self : Int} {H B : Nat} (hC : CoreAt W h cl pa bo q wi gr ke mt ne pt tr self H B) (hb : Below W.heap.size W W') : CoreAt W' h cl pa bo q wi gr ke mt ne pt tr self H B := by
  obtain ⟨Bt, Bs, Bm, Be, base, baseT, hB, hT, hS, hM, hE⟩ := hC
  have hr : CoreRest W q wi self H Bt Bs Bm Be base baseT := ⟨hT, hS, hM, hE⟩
  obtain ⟨h1, h2, h3, h4⟩ := hr.below hb
  exact ⟨Bt, Bs, Bm, Be, base, baseT, keep hB hb, h1, h2, h3, h4⟩

set_option maxHeartbeats 4000000 in
set_option maxRecDepth 100000 in
theorem law_good (h cl pa bo q wi gr ke mt ne pt tr self : Int) (H : Nat) (w : World) (s0 : 0 ≤ self) (s1 : self < h) (hH : h = (H : Int)) (hg : Good h cl pa bo q wi gr ke mt ne pt tr) :
    Calls Try.prog 4 #[.agg #[.int .i64 h, .int .i64 cl, .int .i64 pa, .int .i64 bo, .int .i64 q, .int .i64 wi, .int .i64 gr, .int .i64 ke, .int .i64 mt, .int .i64 ne, .int .i64 pt, .int .i64 tr], .int .u8 self] w fun e w' =>
      e = .returned (.bool true) ∧ Below w.heap.size w w' := by
  have hu := Try.underlying29
  have hu1 := Try.underlying46
  have hu2 := Try.underlying44
  have C1 := Aside0.mk (fun w => checkCfg h cl pa bo q wi gr ke mt ne pt tr w)
  have C2 := Aside0.mk (fun w => chkRef h cl pa bo q wi gr ke mt ne pt tr w)
  have C3 := Aside0.mk (fun w => coreNew_good h cl pa bo q wi gr ke mt ne pt tr self H w s0 s1 hH hg)
  have C4 := Aside0.mk (fun w => refNew_good h cl pa bo q wi gr ke mt ne pt tr self H w s0 s1 hH hg)
  rw [if_pos hg] at C1 C2
  have hH16 := Aside0.mk (show H ≤ 16 by have : h ≤ 16 := hg.1.1.2; omega)
  have s2 : self ≤ 255 := by have : h ≤ 16 := hg.1.1.2; omega
  clear hg hH s1
  go_enter Try.func4, Try.ntmps4
  go_wp2_with fail
  refine (C1.out _).mono ?_
  rintro e w1 ⟨rfl, hb1⟩
  have f1 := keep (heap_new w _) hb1
  have B1 := Aside0.mk (((Below.refl _ w).alloc (Nat.le_refl _) _).trans (hb1.mono (by simp)))
  obtain ⟨d0, d1, d2, d3, d4, d5, d6, d7, d8, d9, d10, d11⟩ := cells12 f1
  have F1 := Aside0.mk f1
  clear f1 hb1
  go_wp2_with fail
  clear d0 d1 d2 d3 d4 d5 d6 d7 d8 d9 d10 d11
  refine (C2.out _).mono ?_
  rintro e w2 ⟨rfl, hb2⟩
  have f2 := keep F1.out hb2
  have B2 := Aside0.mk (B1.out.trans (hb2.mono B1.out.size))
  obtain ⟨d0, d1, d2, d3, d4, d5, d6, d7, d8, d9, d10, d11⟩ := cells12 f2
  have F2 := Aside0.mk f2
  clear f2 hb2 B1 F1
  go_wp2_with fail
  refine (shardlaw10_num.calls 0 0 _ rfl).mono ?_
  rintro e w3 ⟨rfl, ⟨n3, rfl⟩⟩
  go_wp2_with fail
  clear d0 d1 d2 d3 d4 d5 d6 d7 d8 d9 d10 d11
  refine (C3.out _).mono ?_
  rintro e w4 ⟨B, rfl, hC4, hb4⟩
  have f4 := keep (w := w2.drewN n3) (w' := w4) F2.out hb4
  have B4 := Aside0.mk ((B2.out.trans (pw_below_drewN (Below.refl _ _) n3)).trans (hb4.mono B2.out.size))
  obtain ⟨d0, d1, d2, d3, d4, d5, d6, d7, d8, d9, d10, d11⟩ := cells12 f4
  have F4 := Aside0.mk f4
  have C4' := Aside0.mk hC4
  clear f4 hb4 B2 F2 hC4
  go_wp2_with fail
  clear d0 d1 d2 d3 d4 d5 d6 d7 d8 d9 d10 d11
  refine (C4.out _).mono ?_
  rintro e w5 ⟨vt, vp, rfl, hrt, hrp, hb5⟩
  have HC5 := Aside0.mk (C4'.out.below hb5)
  have B5 := Aside0.mk (B4.out.trans (hb5.mono B4.out.size))
  have HRT := Aside0.mk hrt
  have HRP := Aside0.mk hrp
  have HS4 := Aside0.mk hb5.size
  clear hb5 B4 F4 C4' hrt hrp
  have hL1 : (hostV h cl pa bo q wi gr ke mt ne pt tr self vt vp).length = 19 := rfl
  have hL2 : ∀ x ∈ hostV h cl pa bo q wi gr ke mt ne pt tr self vt vp, x.oneCell' = true := by
    obtain ⟨A1, c1, rfl, -⟩ := Kd.R_reads HRT.out
    obtain ⟨A2, c2, rfl, -⟩ := Kd.R_reads HRP.out
    intro x hx; simp only [hostV, List.mem_cons, List.not_mem_nil, or_false] at hx; rcases hx with rfl | rfl | rfl | rfl | rfl | rfl | rfl | rfl | rfl | rfl | rfl | rfl | rfl | rfl | rfl | rfl | rfl | rfl | rfl <;> rfl
  have HO := Aside0.mk (heap_new w5 (.cells hostZ.toArray 46))
  have HB9 := Aside0.mk (B5.out.alloc B5.out.size (.cells hostZ.toArray 46))
  have HS := Aside0.mk B5.out.size
  generalize hLd : hostV h cl pa bo q wi gr ke mt ne pt tr self vt vp = L at hL1 hL2 ⊢
  have hL := Aside0.mk (And.intro hL1 hL2)
  have HLd := Aside0.mk hLd
  clear hL1 hL2 hLd
  go_wp2_with (first | (refine gate_ (.store 46 (.tmp 9) (.tmp 31)) rfl ?_; refine store_block (u := .agg L.toArray) rfl rfl rfl L ?addr ?ex HO.out ?eu ?ht ?hf ?h1 ?_; (case hf => exact hL.out.1); (case addr => rfl); (case ex => rfl); (case eu => rfl); (case ht => rw [hL.out.1]; kernel_rfl); (case h1 => exact hL.out.2); intro W9 hW9 hG9; have HW9 := Aside0.mk hW9; have HG9 := Aside0.mk hG9; clear hW9 hG9))
  refine (shardlaw10_num.calls 0 0 _ rfl).mono ?_
  rintro e w6 ⟨rfl, ⟨n6, rfl⟩⟩
  go_wp2_with fail
  have hb9 : Below w5.heap.size w5 (W9.drewN n6) := (((Below.refl _ w5).alloc (Nat.le_refl _) _).grown HG9.out (by simp only [World.size_alloc]; omega) (fun k e => by cases e; exact Nat.le_refl _)).trans (pw_below_drewN (Below.refl _ _) n6)
  have HC9 := Aside0.mk (HC5.out.below hb9)
  have B9 := Aside0.mk (B5.out.trans (hb9.mono B5.out.size))
  obtain ⟨A1, c1, rfl, hl1, hC1⟩ := Kd.R_reads (Kd.R_below HRT.out hb9)
  obtain ⟨A2, c2, rfl, hl2, hC2⟩ := Kd.R_reads (Kd.R_below HRP.out hb9)
  have h9 : (W9.drewN n6).heap[w5.heap.size]? = some (.cells (hostV h cl pa bo q wi gr ke mt ne pt tr self (.slice A1 1 c1) (.slice A2 H c2)).toArray 46 (0, 0)) := by
    have h := HW9.out
    rw [← HLd.out, List.length_replicate] at h
    exact h
  rw [List.length_replicate] at hl2 hC2
  have HH9 := Aside0.mk h9
  have HL1 := Aside0.mk hl1
  have HL2 := Aside0.mk hl2
  have HC1 := Aside0.mk hC1
  have HC2 := Aside0.mk hC2
  have HS9 := Aside0.mk (Array.getElem?_eq_some_iff.1 h9).1
  clear hb9 HC5 B5 HRT HRP hl1 hC1 hl2 hC2 h9 HW9 HG9 HLd HO HB9 hL
  generalize W9.drewN n6 = x at HC9 B9 HH9 HC1 HC2 HS9 ⊢
  refine (coreState_new _ _ _ _ _ _ _ _ _ _ _ _ _ H B x hH16.out HC9.out).mono ?_
  rintro e w7 ⟨vt, vp, rfl, hrt, hrp, hb7⟩
  obtain ⟨A3, c3, rfl, hl3, hC3⟩ := Kd.R_reads hrt
  obtain ⟨A4, c4, rfl, hl4, hC4⟩ := Kd.R_reads hrp
  rw [List.length_replicate] at hl4 hC4 ⊢
  rw [show List.length [(⟨0, 18446744073709551615, 0⟩ : S79)] = 1 from rfl] at hl3 hC3 ⊢
  have HL3 := Aside0.mk hl3
  have HL4 := Aside0.mk hl4
  have HC3 := Aside0.mk hC3
  have HC4 := Aside0.mk hC4
  have HC1 := Aside0.mk (Kd.C_below HC1.out hb7)
  have HC2 := Aside0.mk (Kd.C_below HC2.out hb7)
  have HH7 := Aside0.mk (keep HH9.out hb7)
  have B7 := Aside0.mk (B9.out.trans (hb7.mono B9.out.size))
  have HS7 := Aside0.mk (Nat.lt_of_lt_of_le HS9.out hb7.size)
  clear hb7 hrt hrp hl3 hl4 hC3 hC4 HC9 HH9
  have hk := fun A : Obj => keep HH7.out ((Below.refl _ w7).alloc (Nat.le_refl _) A)
  have e12 : ∀ A, (w7.alloc A).cell? ⟨w5.heap.size, 12, none⟩ = some (.int .u8 self) := fun A => cell_at (hk A) 12
  have e13 : ∀ A, (w7.alloc A).cell? ⟨w5.heap.size, 13, none⟩ = some (.slice A1 1 c1) := fun A => cell_at (hk A) 13
  have e14 : ∀ A, (w7.alloc A).cell? ⟨w5.heap.size, 14, none⟩ = some (.slice none 0 0) := fun A => cell_at (hk A) 14
  have e15 : ∀ A, (w7.alloc A).cell? ⟨w5.heap.size, 15, none⟩ = some (.slice none 0 0) := fun A => cell_at (hk A) 15
  have e16 : ∀ A, (w7.alloc A).cell? ⟨w5.heap.size, 16, none⟩ = some (.int .i64 pa) := fun A => cell_at (hk A) 16
  have e17 : ∀ A, (w7.alloc A).cell? ⟨w5.heap.size, 17, none⟩ = some (.int .i64 bo) := fun A => cell_at (hk A) 17
  have e18 : ∀ A, (w7.alloc A).cell? ⟨w5.heap.size, 18, none⟩ = some (.slice A2 H c2) := fun A => cell_at (hk A) 18
  clear hk
  go_wp2_with fail
  clear e12 e13 e14 e15 e16 e17 e18
  have hN : ∀ {α : Type} (d : Kd α) (w' : World), Kd.C d w' none ([] : List α).length [] := fun d w' => (Kd.R_reads' (Kd.R_nil d 0 w' 0 (fun _ => True))).2.2
  have hA := fun o : Obj => (Below.refl w7.heap.size w7).alloc (Nat.le_refl _) o
  have hD := fun o : Obj => shardref10_SameState.calls 40 self A3 c3 [⟨0, 18446744073709551615, 0⟩] none 0 [] none 0 [] pa bo A4 c4 (List.replicate H z122) self A1 c1 [⟨0, 18446744073709551615, 0⟩] none 0 [] none 0 [] pa bo A2 c2 (List.replicate H z122) true (w7.alloc o)
    (Kd.C_below HC3.out (hA o)) HL3.out (hN _ _) (Nat.le_refl _) (hN _ _) (Nat.le_refl _) (by rw [List.length_replicate]; exact Kd.C_below HC4.out (hA o)) (by rw [List.length_replicate]; exact HL4.out)
    (Kd.C_below HC1.out (hA o)) HL1.out (hN _ _) (Nat.le_refl _) (hN _ _) (Nat.le_refl _) (by rw [List.length_replicate]; exact Kd.C_below HC2.out (hA o)) (by rw [List.length_replicate]; exact HL2.out) (same_start self pa bo H hH16.out)
  rw [List.length_replicate] at hD
  refine (hD _).mono ?_
  rintro e w8 ⟨rfl, hb8⟩
  have B8 := Aside0.mk ((B7.out.alloc B7.out.size _).trans (hb8.mono (by have := B7.out.size; simp only [World.size_alloc]; omega)))
  clear hD hA hN hb8
  go_wp2_with fail
  go_ret
  exact ⟨rfl, B8.out⟩

theorem law (h cl pa bo q wi gr ke mt ne pt tr self : Int) (w : World) (s0 : 0 ≤ self) (s1 : self ≤ 255) :
    Calls Try.prog 4 #[.agg #[.int .i64 h, .int .i64 cl, .int .i64 pa, .int .i64 bo, .int .i64 q, .int .i64 wi, .int .i64 gr, .int .i64 ke, .int .i64 mt, .int .i64 ne, .int .i64 pt, .int .i64 tr], .int .u8 self] w fun e w' =>
      e = .returned (.bool true) ∧ Below w.heap.size w w' := by
  by_cases hg : Good h cl pa bo q wi gr ke mt ne pt tr
  · by_cases hs : self < h
    · exact law_good h cl pa bo q wi gr ke mt ne pt tr self h.toNat w s0 hs (by omega) hg
    · exact law_bad h cl pa bo q wi gr ke mt ne pt tr self w s0 s1 (.inr (by omega))
  · exact law_bad h cl pa bo q wi gr ke mt ne pt tr self w s0 s1 (.inl hg)
end Go.Proofs.Ytpekmdpbfjdjkaa.core
