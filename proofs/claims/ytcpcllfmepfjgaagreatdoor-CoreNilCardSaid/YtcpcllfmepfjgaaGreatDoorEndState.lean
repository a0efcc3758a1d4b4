/- End.State of an end that is new: every peer's state is the zero one. -/
import Derived.Test.YtcpcllfmepfjgaaGreatDoorCoreNew2
import Derived.StillTailTactics
import Derived.RangeFuncBox
namespace Go.Proofs.YtcpcllfmepfjgaaGreatDoor.core
open Go.RowKit Go.Proofs.YtcpcllfmepfjgaaGreatDoorW.PrintWords Go.Proofs.YtcpcllfmepfjgaaGreatDoorW.PrintLast Go.Proofs.YtcpcllfmepfjgaaGreatDoorW.PrintMore Go.Proofs.YtcpcllfmepfjgaaGreatDoor.PCoreNil
set_option linter.unusedVariables false
set_option linter.unusedSimpArgs false

theorem copies_nil (w : World) : Calls Tryz.prog 40 #[.slice none 0 0] w fun e w' => e = .returned (.slice none 0 0) ∧ w' = w := by
  go_enter Tryz.func40, Tryz.ntmps40
  go_wp2_with fail
  refine wp_loop_rounds 1 ?_
  rw [rounds_succ]
  go_wp2_with fail
  go_ret
  exact ⟨rfl, rfl⟩
theorem frames_nil (w : World) : Calls Tryz.prog 41 #[.slice none 0 0] w fun e w' => e = .returned (.slice none 0 0) ∧ w' = w := by
  go_enter Tryz.func41, Tryz.ntmps41
  go_wp2_with fail
  refine wp_loop_rounds 1 ?_
  rw [rounds_succ]
  go_wp2_with fail
  go_ret
  exact ⟨rfl, rfl⟩

theorem infoPS : (Tryz.prog.info? 120).map (fun i => (i.zero, i.size, i.bytes)) = some (some (.agg #[.int .u64 0, .int .u64 0, .slice none 0 0, .int .u64 0, .int .u64 0, .slice none 0 0]), 6, 80) := by kernel_rfl

set_option maxHeartbeats 4000000 in
set_option maxRecDepth 100000 in
theorem endState_new (self q win : Int) (H : Nat) (base B : Nat) (w : World) (hH : H ≤ 16) (hE : EndAt w base self q win H B) :
    Calls Tryz.prog 16 #[.pointer (some ⟨B, 0, none⟩)] w fun e w' =>
      ∃ v, e = .returned (.agg #[v]) ∧ Kd.R k120 120 w' w.heap.size (fun _ => True) v (List.replicate H z120) ∧ Below w.heap.size w w' := by
  obtain ⟨i0, hi, hz0, hz1, hz2⟩ := info_parts infoPS
  obtain ⟨hbB, P, hB, hP⟩ := hE
  have hc : w.cell? ⟨B, 0, none⟩ = some (.slice (some ⟨P, 0, none⟩) H H) := cell_at hB 0
  have hBl : B < w.heap.size := (Array.getElem?_eq_some_iff.1 hB).1
  have HP := Aside0.mk hP
  have HBB := Aside0.mk hB
  have hu := Tryz.underlying120
  clear hP hB
  go_enter Tryz.func16, Tryz.ntmps16
  go_wp2_with (at_make; refine wpList_make_full _ rfl _ _ 39 rfl w.heap.size 120 i0 _ 6 Tryz.underlying39 hi hz0 hz1 _ _ _ _ H rfl rfl rfl rfl ?b2 ?b3 ?b4 ?_; (case b2 => rw [hz2]; omega); (case b3 => unfold maxLen; omega); (case b4 => simp); intro wm hown hgrow; rw [World.size_alloc] at hown; have hbm : Below w.heap.size w wm := Below.grown (below_alloc (Below.refl _ _) _) hgrow (by simp) (fun k e => by cases e); have hcm := pw_cell_below hbm hc; have hlm : B < wm.heap.size := Nat.lt_of_lt_of_le hBl hbm.size; have HOWN := Aside0.mk hown; have HGR := Aside0.mk hgrow; have HBM := Aside0.mk hbm; clear hown hgrow hbm)
  have hbox := heap_new wm (.cells #[.slice (some ⟨w.heap.size + 1, 0, none⟩) H H] 41)
  have hres : (wm.alloc (.cells #[.slice (some ⟨w.heap.size + 1, 0, none⟩) H H] 41)).heap[w.heap.size]? = some (.cells #[.slice none 0 0] 41 (0, 0)) := by
    rw [heap_alloc_old wm _ (by have hq : w.heap.size + 1 < wm.heap.size := own_lt HOWN.out _ rfl; omega)]
    exact (HGR.out.block w.heap.size (by rw [World.size_alloc]; omega) (by simp)).trans (heap_alloc_new w _)
  have HRES := Aside0.mk hres
  have HBOX := Aside0.mk hbox
  have HB0 := Aside0.mk (HBM.out.alloc HBM.out.size (.cells #[.slice (some ⟨w.heap.size + 1, 0, none⟩) H H] 41))
  have hR0 : Kd.R k120 120 wm w.heap.size (fun k => k ≠ w.heap.size) (.slice (some ⟨w.heap.size + 1, 0, none⟩) H H) (List.replicate H z120) :=
    ⟨fun k hk => (by have h : w.heap.size + 1 = k := (by simpa [Value.ownBlock] using hk); omega), _, by rw [List.length_replicate]; exact own_weaken HOWN.out (by omega), Kd.reps_made (z := .agg #[.int .u64 0, .int .u64 0, .slice none 0 0, .int .u64 0, .int .u64 0, .slice none 0 0]) rfl (by decide) (k120_mkM _ _ _ z120 (Kd.R_nil _ _ _ _ _) (Kd.R_nil _ _ _ _ _)) H⟩
  have HO0 := Aside0.mk (Kd.R_alloc hR0 (.cells #[.slice (some ⟨w.heap.size + 1, 0, none⟩) H H] 41))
  have hQ : w.heap.size + 1 < wm.heap.size := own_lt HOWN.out _ rfl
  clear hbox hres hcm hlm
  go_loopw [21] (fun v21 wr => ∃ i : Nat, i ≤ H ∧ v21 = .int .i64 i ∧ Aside0 (Kd.R k120 120 wr w.heap.size (fun k => k ≠ w.heap.size) (.slice (some ⟨w.heap.size + 1, 0, none⟩) H H) (List.replicate H z120)) ∧
      Aside0 (wr.heap[wm.heap.size]? = some (.cells #[.slice (some ⟨w.heap.size + 1, 0, none⟩) H H] 41 (0, 0))) ∧ Aside0 (wr.heap[w.heap.size]? = some (.cells #[.slice none 0 0] 41 (0, 0))) ∧ Aside0 (Below w.heap.size w wr)) (fun v _ => H - (intOf v).toNat)
  case atStart => exact ⟨0, Nat.zero_le _, rfl, HO0, HBOX, HRES, HB0⟩
  case round =>
    clear HO0 HBOX HRES HB0
    obtain ⟨i, hi', rfl, HO, HBOX, HRES, HB⟩ := hrel
    by_cases hlt : i < H
    · obtain ⟨vs, hrow, hps, -⟩ := PeersRow.move (T := 0) HP.out (Moves.below HB.out) (by decide) (by decide)
      have hvl : vs.length = H := by have := hrow.1; omega
      have hce := (hrow.cellAt i (by omega)).trans (List.getElem?_eq_getElem (show i < vs.length by omega))
      have hpa := hps i _ hlt (List.getElem?_eq_getElem (show i < vs.length by omega))
      generalize vs[i] = v at hce hpa
      clear hrow hps
      rcases hpa with ⟨hs, rfl⟩ | ⟨hs, b, hb, rfl, hpb⟩
      · clear hs
        go_wp2_with fail
        go_roundw
        case rel => exact ⟨i + 1, by omega, by go_num, HO, HBOX, HRES, HB⟩
        case measure => simp [intOf]; omega
      · have HS := Aside0.mk hs
        have HPB := Aside0.mk hpb
        have hx : wr.cell? ⟨wm.heap.size, 0, none⟩ = some (.slice (some ⟨w.heap.size + 1, 0, none⟩) H H) := cell_at HBOX.out 0
        have p3 : wr.cell? ⟨b, 3, none⟩ = some (.int .u64 0) := cell_at hpb 3
        have p4 : wr.cell? ⟨b, 4, none⟩ = some (.int .u64 0) := cell_at hpb 4
        have p5 : wr.cell? ⟨b, 5, none⟩ = some (.slice none 0 0) := cell_at hpb 5
        have p6 : wr.cell? ⟨b, 6, none⟩ = some (.int .u64 0) := cell_at hpb 6
        have p9 : wr.cell? ⟨b, 9, none⟩ = some (.int .u64 0) := cell_at hpb 9
        have p10 : wr.cell? ⟨b, 10, none⟩ = some (.slice none 0 0) := cell_at hpb 10
        clear hs hpb
        go_wp2_with fail
        refine wp_region_still_tail 37 (by kernel_rfl) (by kernel_rfl) ?_
        simp only [List.take_succ_cons, List.take_zero, List.drop_succ_cons, List.drop_zero]
        repeat still_step
        still_call (copies_nil _)
        repeat still_step
        still_call (frames_nil _)
        repeat still_step
        refine wpStill_nil ?_
        change wpList _ _ _ _ _ wr.drew
        obtain ⟨W, hW⟩ : ∃ W : World, W = wr.drew := ⟨_, rfl⟩
        rw [← hW]
        have hO1 : Kd.R k120 120 W w.heap.size (fun k => k ≠ w.heap.size) (.slice (some ⟨w.heap.size + 1, 0, none⟩) H H) (List.replicate H z120) := by rw [hW]; exact Kd.R_drew HO.out
        have hB1 : Below w.heap.size w W := by rw [hW]; exact below_drew HB.out
        have HBOX1 : Aside0 (W.heap[wm.heap.size]? = some (.cells #[.slice (some ⟨w.heap.size + 1, 0, none⟩) H H] 41 (0, 0))) := by rw [hW]; exact HBOX
        have HRES1 : Aside0 (W.heap[w.heap.size]? = some (.cells #[.slice none 0 0] 41 (0, 0))) := by rw [hW]; exact HRES
        obtain ⟨c, hcl, hcM, hcc⟩ := Kd.R_getA hO1 z120 (i : Int) (by omega) (by omega)
        refine Kd.R_store k120 (w0 := w) w.heap.size rfl rfl 120 (.tmp 64) (.tmp 63) rfl 120 (g := w.heap.size + 1) (n := H) (cap := H) (o' := i * 6) (i : Int) 0 (List.replicate H z120) z120 (.agg #[.int .u64 0, .int .u64 0, .slice none 0 0, .int .u64 0, .int .u64 0, .slice none 0 0]) [.int .u64 0, .int .u64 0, .slice none 0 0, .int .u64 0, .int .u64 0, .slice none 0 0] c (fun k => k ≠ w.heap.size) (fun _ => False) ?addr ?off ?ex rfl ?ht ?h1 hO1 (by omega) (by omega) hcl ?hcc (by decide) ?hM (fun k hk => hk.elim) hB1 ?_
        case addr => first | rfl | (refine Eq.trans (b := .pointer (some ((⟨w.heap.size + 1, 0, none⟩ : Addr).add (i * 6)))) (by rfl) (by rw [add_at, Nat.zero_add])) | (simp [go_sem]; done)
        case off => show i * 6 = (i : Int).toNat * 6 + 0; simp
        case ex => first | rfl | (simp [go_sem]; done)
        case ht => kernel_rfl
        case h1 => intro q hq; simp only [List.mem_cons, List.not_mem_nil, or_false] at hq; rcases hq with rfl | rfl | rfl | rfl | rfl | rfl <;> rfl
        case hcc => intro j u hu; have h := hcc j u hu; rwa [add_at, Nat.zero_add] at h
        case hM =>
          have h0 : (([.int .u64 0, .int .u64 0, .slice none 0 0, .int .u64 0, .int .u64 0, .slice none 0 0] : List Value) ++ c.drop 6) = [.int .u64 0, .int .u64 0, .slice none 0 0, .int .u64 0, .int .u64 0, .slice none 0 0] := by rw [List.drop_eq_nil_of_le (by rw [hcl]; decide)]; rfl
          show Kd.M k120 W w.heap.size _ _ (([.int .u64 0, .int .u64 0, .slice none 0 0, .int .u64 0, .int .u64 0, .slice none 0 0] : List Value) ++ c.drop 6)
          rw [h0]
          exact k120_mkM _ _ _ z120 (Kd.R_nil _ _ _ _ _) (Kd.R_nil _ _ _ _ _)
        intro w1 hR1 hB2 hG1
        rw [show (List.replicate H z120).set (i : Int).toNat z120 = List.replicate H z120 by apply List.ext_getElem <;> simp [List.getElem_set]] at hR1
        have HO2 := Aside0.mk hR1
        have HB3 := Aside0.mk hB2
        have HBOX2 := Aside0.mk ((hG1.block wm.heap.size (by have := (Array.getElem?_eq_some_iff.1 HBOX1.out).1; omega) (by intro he; injection he with he; omega)).trans HBOX1.out)
        have HRES2 := Aside0.mk ((hG1.block w.heap.size (by have := (Array.getElem?_eq_some_iff.1 HRES1.out).1; omega) (by intro he; injection he with he; omega)).trans HRES1.out)
        clear hR1 hB2 hG1 hO1 hB1 hcc hcM hcl hW
        go_wp2_with fail
        go_roundw
        case rel => exact ⟨i + 1, by omega, by go_num, HO2, HBOX2, HRES2, HB3⟩
        case measure => simp [intOf]; omega
    · obtain rfl : i = H := by omega
      have hx : wr.cell? ⟨wm.heap.size, 0, none⟩ = some (.slice (some ⟨w.heap.size + 1, 0, none⟩) i i) := cell_at HBOX.out 0
      have hr : wr.cell? ⟨w.heap.size, 0, none⟩ = some (.slice none 0 0) := cell_at HRES.out 0
      have hrl : w.heap.size < wr.heap.size := (Array.getElem?_eq_some_iff.1 HRES.out).1
      have hf : wr.frozen? ⟨w.heap.size, 0, none⟩ = false := frozen_at HRES.out 0
      go_wp2_with fail
      have hB9 := Below.setCell HB.out (p := ⟨w.heap.size, 0, none⟩) (Nat.le_refl _) (.slice (some ⟨w.heap.size + 1, 0, none⟩) i i)
      have hR9 := Kd.R_mono (Kd.R_grown HO.out (grownBy_setCell' wr w.heap.size (.slice (some ⟨w.heap.size + 1, 0, none⟩) i i)) (fun k hk he => hk (by simpa using he))) (fun _ _ => trivial)
      have hr9 : (wr.setCell ⟨w.heap.size, 0, none⟩ (.slice (some ⟨w.heap.size + 1, 0, none⟩) i i)).cell? ⟨w.heap.size, 0, none⟩ = some (.slice (some ⟨w.heap.size + 1, 0, none⟩) i i) := by simp [hr, go_sem]
      refine bodyPost_ret (by simp [results, hr9, go_sem]) rfl ⟨_, rfl, hR9, hB9⟩
end Go.Proofs.YtcpcllfmepfjgaaGreatDoor.core
