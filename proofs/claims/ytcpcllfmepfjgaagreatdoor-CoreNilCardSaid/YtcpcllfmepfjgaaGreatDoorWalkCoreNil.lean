/- CoreNil, walked. Conditions: the message's lists fit a machine. -/
import Derived.Test.YtcpcllfmepfjgaaGreatDoorNil
import Derived.Test.YtcpcllfmepfjgaaGreatDoorCoreState
namespace Go.Proofs.YtcpcllfmepfjgaaGreatDoor.core
open Go.RowKit Go.Proofs.YtcpcllfmepfjgaaGreatDoorW.PrintWords Go.Proofs.YtcpcllfmepfjgaaGreatDoorW.PrintLast Go.Proofs.YtcpcllfmepfjgaaGreatDoorW.PrintMore Go.Proofs.YtcpcllfmepfjgaaGreatDoor.PCoreNil
set_option linter.unusedVariables false
set_option linter.unusedSimpArgs false

theorem good_one : Good 1 0 0 0 1 1 1 1 64 1 1 1 := by decide
theorem CoreAt.below {W W' : World} {h cl pa bo q wi gr ke mt ne pt tr self : Int} {H B : Nat} (hC : CoreAt W h cl pa bo q wi gr ke mt ne pt tr self H B) (hb : Below W.heap.size W W') : CoreAt W' h cl pa bo q wi gr ke mt ne pt tr self H B := by
  obtain ⟨Bt, Bs, Bm, Be, base, baseT, hB, hT, hS, hM, hE⟩ := hC
  have hr : CoreRest W q wi self H Bt Bs Bm Be base baseT := ⟨hT, hS, hM, hE⟩
  obtain ⟨h1, h2, h3, h4⟩ := hr.below hb
  exact ⟨Bt, Bs, Bm, Be, base, baseT, (hb.block _ (Array.getElem?_eq_some_iff.1 hB).1).trans hB, h1, h2, h3, h4⟩
def cfgOne : Array Value := #[.int .i64 1, .int .i64 0, .int .i64 0, .int .i64 0, .int .i64 1, .int .i64 1, .int .i64 1, .int .i64 1, .int .i64 64, .int .i64 1, .int .i64 1, .int .i64 1]
def cfgZero : Array Value := #[.int .i64 0, .int .i64 0, .int .i64 0, .int .i64 0, .int .i64 0, .int .i64 0, .int .i64 0, .int .i64 0, .int .i64 0, .int .i64 0, .int .i64 0, .int .i64 0]
def stZero : Array Value := #[.int .u8 0, .slice none 0 0, .slice none 0 0, .slice none 0 0, .int .i64 0, .int .i64 0, .slice none 0 0]

theorem blk_next {W W' : World} {b : Nat} {o : Obj} (h : W.heap[b]? = some o) (hb : Below W.heap.size W W') : W'.heap[b]? = some o := (hb.block b (Array.getElem?_eq_some_iff.1 h).1).trans h
theorem blk_lt {W : World} {b : Nat} {o : Obj} (h : W.heap[b]? = some o) : b < W.heap.size := (Array.getElem?_eq_some_iff.1 h).1

theorem seg_one {W : World} {base : Nat} {ok : Nat → Prop} {v : Value} (h : Kd.R k52 52 W base ok v [⟨0, 18446744073709551615, 0⟩]) : ∃ g c, v = .slice (some ⟨g, 0, none⟩) 1 c ∧ W.cell? ⟨g, 1, none⟩ = some (.int .u64 18446744073709551615) := by
  obtain ⟨inner, ho⟩ := Kd.R_own h
  obtain ⟨A, c, rfl, hl, hC⟩ := Kd.R_reads h
  rcases ho.2 with ⟨h1, -⟩ | ⟨g, cap, cur, h1, -⟩
  · injection h1 with _ h2
    simp at h2
  · injection h1 with h2 h3 h4
    subst h2
    obtain ⟨ad, e, hc⟩ := hC.2.2 (by decide)
    injection e with e
    subst e
    obtain ⟨cc, hs, hr, hcell⟩ := hc 0 _ rfl
    have := k52_open hr
    subst this
    exact ⟨g, c, rfl, hcell 1 _ rfl⟩
theorem R_lt_ {W : World} {base : Nat} {ok : Nat → Prop} {g n c : Nat} {xs : List S52} (h : Kd.R k52 52 W base ok (.slice (some ⟨g, 0, none⟩) n c) xs) : ∃ cells, W.heap[g]? = some (.cells cells 52 (0, 0)) := by
  obtain ⟨inner, ho⟩ := Kd.R_own h
  exact own_typed ho g rfl
theorem cell_far {W W' : World} {g b j e t : Nat} {cs : Array Value} {v : Value} (hv : W.cell? ⟨g, j, none⟩ = some v) (hb : W.heap[b]? = some (.cells cs t (0, 0))) (ht : e ≠ t) (he : ∃ cells, W.heap[g]? = some (.cells cells e (0, 0))) (hg : W.grownBy W' (some b)) : W'.cell? ⟨g, j, none⟩ = some v := by
  obtain ⟨cells, hc⟩ := he
  have hne : g ≠ b := by
    rintro rfl
    rw [hb] at hc
    injection hc with hc
    injection hc with _ hc _
    exact ht hc.symm
  have := (hg.block _ (blk_lt hc) (fun e => hne (by injection e))).trans hc
  rw [cell_at this j, ← cell_at hc j]
  exact hv

set_option maxHeartbeats 4000000 in
set_option maxRecDepth 100000 in
theorem law (src a0 a1 a2 a3 : Int) (A4 : Option Addr) (c4 : Nat) (l4 : List Int) (A5 : Option Addr) (c5 : Nat) (l5 : List Int) (a6 : Bool) (a7 a8 a9 a10 a11 a12 a13 : Int) (A14 : Option Addr) (c14 : Nat) (l14 : List S101) (A15 : Option Addr) (c15 : Nat) (l15 : List S76) (A16 : Option Addr) (c16 : Nat) (l16 : List Int) (w : World)
    (hr4 : Kd.C (Kd.int .u8) w A4 l4.length l4) (hc4 : l4.length ≤ c4) (hr5 : Kd.C (Kd.int .u8) w A5 l5.length l5) (hc5 : l5.length ≤ c5) (hr14 : Kd.C k101 w A14 l14.length l14) (hc14 : l14.length ≤ c14) (hr15 : Kd.C k76 w A15 l15.length l15) (hc15 : l15.length ≤ c15) (hr16 : Kd.C (Kd.int .u8) w A16 l16.length l16) (hc16 : l16.length ≤ c16)
    (b4 : l4.length < 140737488355312) (b5 : l5.length < 140737488355312) (b16 : l16.length < 140737488355312) (b14 : l14.length < 4398046511104) (b14' : ∀ x ∈ l14, x.f1.length < 140737488355312) (b15 : l15.length < 5864062014805) :
    Calls Tryz.prog 3 #[.int .u8 src, .agg (msgL a0 a1 a2 a3 (.slice A4 l4.length c4) (.slice A5 l5.length c5) a6 a7 a8 a9 a10 a11 a12 a13 (.slice A14 l14.length c14) (.slice A15 l15.length c15) (.slice A16 l16.length c16)).toArray] w fun e w' =>
      e = .returned (.bool true) ∧ Below w.heap.size w w' := by
  have CT := Aside0.mk (fun w' hb => twin a0 a1 a2 a3 A4 c4 l4 A5 c5 l5 a6 a7 a8 a9 a10 a11 a12 a13 A14 c14 l14 A15 c15 l15 A16 c16 l16 w' (Kd.C_below hr4 hb) hc4 (Kd.C_below hr5 hb) hc5 (Kd.C_below hr14 hb) hc14 (Kd.C_below hr15 hb) hc15 (Kd.C_below hr16 hb) hc16 b4 b5 b16 b14 b14' b15)
  clear hr4 hc4 hr5 hc5 hr14 hc14 hr15 hr16 hc16 b4 b5 b16 b14 b14' b15
  generalize hM : (msgL a0 a1 a2 a3 (.slice A4 l4.length c4) (.slice A5 l5.length c5) a6 a7 a8 a9 a10 a11 a12 a13 (.slice A14 l14.length c14) (.slice A15 l15.length c15) (.slice A16 l16.length c16)).toArray = M at CT ⊢
  have hMs := Aside0.mk (show M.size = 17 by rw [← hM]; rfl)
  have hM1 := Aside0.mk (show (.agg M : Value).cells.all (·.oneCell') = true by rw [← hM]; simp [msgL, Value.cells, Value.oneCell'])
  clear hM
  go_enter Tryz.func3, Tryz.ntmps3
  go_wp2_with (first
    | ((with_reducible refine gate_dst (N := 3) rfl ?_); refine box_event ?hg (N := 3) ?hd (cs := M) (t := 31) ?hr ?_; (case hd => rfl); (case hg => rfl); (case hr => first | (go_simp; done) | (go_simp; rfl)); intro g1 hg1 w1 hbox1 hb1; have X1 := Aside0.mk hbox1; have Y1 := Aside0.mk hb1; clear hg1 hbox1 hb1)
    | ((with_reducible refine gate_dst (N := 18) rfl ?_); refine load_block (t := 31) (p := .tmp 3) rfl rfl ?haddr X1.out Tryz.underlying31 ?hd ?hi ?_; (case haddr => rfl); (case hd => rfl); (case hi => rw [hMs.out]; kernel_rfl)))
  refine (CT.out _ Y1.out).mono ?_
  rintro e w2 ⟨v4, v5, v14, v15, v16, rfl, ⟨h4, h5, h14, h15, h16⟩, hb2⟩
  have Y2 := Aside0.mk (Y1.out.trans (hb2.mono Y1.out.size))
  have CA := Aside0.mk (applyNil src a0 a1 a2 a3 v4 v5 a6 a7 a8 a9 a10 a11 a12 a13 v14 v15 v16 h4 h5 h14 h15 h16 w2)
  generalize (msgL a0 a1 a2 a3 v4 v5 a6 a7 a8 a9 a10 a11 a12 a13 v14 v15 v16).toArray = N at CA ⊢
  clear h4 h5 h14 h15 h16 hb2 Y1 X1 CT hMs hM1
  go_wp2_with fail
  refine CA.out.mono ?_
  rintro e w3 ⟨rfl, hb3⟩
  have Y3 := Aside0.mk (Y2.out.trans (hb3.mono Y2.out.size))
  clear hb3 Y2 CA
  go_wp2_with fail
  refine (stateNil _).mono ?_
  rintro e w4 ⟨rfl, hb4⟩
  have Y4 := Aside0.mk (Y3.out.trans (hb4.mono Y3.out.size))
  clear hb4 Y3
  go_wp2_with (first
    | ((with_reducible refine gate_dst (N := 9) rfl ?_); refine box_event ?hg (N := 9) ?hd (cs := stZero) (t := 43) ?hr ?_; (case hd => rfl); (case hg => rfl); (case hr => first | (go_simp; done) | (go_simp; rfl)); intro g9 hg9 w5 hbox5 hb5; have G9 := Aside0.mk (show w.heap.size ≤ g9 by rw [hg9]; exact Y4.out.size); have X5 := Aside0.mk hbox5; have Y5 := Aside0.mk (Y4.out.trans (hb5.mono Y4.out.size)); clear hg9 hbox5 hb5)
    | ((with_reducible refine gate_store (t := 43) (p := 9) (v := .tmp 25) rfl ?_); refine store_block (u := .agg stZero) rfl rfl rfl stZero.toList ?addr ?ex X5.out ?eu ?ht ?hf ?h1 ?_; (case hf => rfl); (case addr => rfl); (case ex => rfl); (case eu => rfl); (case ht => kernel_rfl); (case h1 => intro q hq; simp only [stZero, List.mem_cons, List.not_mem_nil, or_false] at hq; rcases hq with rfl | rfl | rfl | rfl | rfl | rfl | rfl <;> rfl); intro w6 hW6 hG6; have X6 := Aside0.mk hW6; have Y6 := Aside0.mk (Y5.out.grown hG6 Y5.out.size (fun k e => by cases e; exact G9.out)); clear hW6 hG6))
  refine (tickNil _).mono ?_
  rintro e w7 ⟨rfl, hb7⟩
  have X7 := Aside0.mk (blk_next X6.out hb7)
  have Y7 := Aside0.mk (Y6.out.trans (hb7.mono Y6.out.size))
  clear hb7 X6 Y6 X5 Y5 Y4
  go_wp2_with (first
    | ((with_reducible refine gate_dst (N := 28) rfl ?_); refine load_block (t := 43) (p := .tmp 9) rfl rfl ?haddr X7.out Tryz.underlying43 ?hd ?hi ?_; (case haddr => rfl); (case hd => rfl); (case hi => kernel_rfl)))
  have hN : ∀ {α : Type} (d : Kd α) (w' : World), Kd.C d w' none ([] : List α).length [] := fun d w' => (Kd.R_reads' (Kd.R_nil d 0 w' 0 (fun _ => True))).2.2
  refine (shardref10_SameState.calls 40 0 none 0 [] none 0 [] none 0 [] 0 0 none 0 [] 0 none 0 [] none 0 [] none 0 [] 0 0 none 0 [] true w7
    (hN _ _) (Nat.le_refl _) (hN _ _) (Nat.le_refl _) (hN _ _) (Nat.le_refl _) (hN _ _) (Nat.le_refl _) (hN _ _) (Nat.le_refl _) (hN _ _) (Nat.le_refl _) (hN _ _) (Nat.le_refl _) (hN _ _) (Nat.le_refl _) same_nil).mono ?_
  rintro e w8 ⟨rfl, hb8⟩
  have X8 := Aside0.mk (blk_next X7.out hb8)
  have Y8 := Aside0.mk (Y7.out.trans (hb8.mono Y7.out.size))
  clear hb8 X7 Y7 hN
  go_wp2_with (first
    | ((with_reducible refine gate_dst (N := 12) rfl ?_); refine box_event ?hg (N := 12) ?hd (cs := cfgZero) (t := 48) ?hr ?_; (case hd => rfl); (case hg => rfl); (case hr => first | (go_simp; done) | (go_simp; rfl)); intro g12 hg12 w9 hbox9 hb9; have G12 := Aside0.mk (show w.heap.size ≤ g12 by rw [hg12]; exact Y8.out.size); have N12 := Aside0.mk (show g9 ≠ g12 by have := blk_lt X8.out; omega); have X9 := Aside0.mk (And.intro (blk_next X8.out hb9) hbox9); have Y9 := Aside0.mk (Y8.out.trans (hb9.mono Y8.out.size)); clear hg12 hbox9 hb9)
    | ((with_reducible refine gate_store (t := 48) (p := 12) (v := .tmp 50) rfl ?_); refine store_block (u := .agg cfgOne) rfl rfl rfl cfgOne.toList ?addr ?ex X9.out.2 ?eu ?ht ?hf ?h1 ?_; (case hf => rfl); (case addr => rfl); (case ex => rfl); (case eu => rfl); (case ht => kernel_rfl); (case h1 => intro q hq; simp only [cfgOne, List.mem_cons, List.not_mem_nil, or_false] at hq; rcases hq with rfl | rfl | rfl | rfl | rfl | rfl | rfl | rfl | rfl | rfl | rfl | rfl <;> rfl); intro w10 hW10 hG10; have X10 := Aside0.mk (And.intro ((hG10.block _ (blk_lt X9.out.1) (fun e => N12.out (by injection e))).trans X9.out.1) hW10); have Y10 := Aside0.mk (Y9.out.grown hG10 Y9.out.size (fun k e => by cases e; exact G12.out)); clear hW10 hG10)
    | ((with_reducible refine gate_dst (N := 52) rfl ?_); refine load_block (t := 48) (p := .tmp 12) rfl rfl ?haddr X10.out.2 Tryz.underlying48 ?hd ?hi ?_; (case haddr => rfl); (case hd => rfl); (case hi => kernel_rfl)))
  refine (coreNew_good 1 0 0 0 1 1 1 1 64 1 1 1 0 1 w10 (by decide) (by decide) rfl good_one).mono ?_
  rintro e w11 ⟨B, rfl, hC, hb11⟩
  have X11 := Aside0.mk (blk_next X10.out.1 hb11)
  have Y11 := Aside0.mk (Y10.out.trans (hb11.mono Y10.out.size))
  have HC := Aside0.mk hC
  clear hC hb11 X10 Y10 X9 Y9 X8 Y8 G12 N12
  go_wp2_with fail
  refine (coreState_new 1 0 0 0 1 1 1 1 64 1 1 1 0 1 B w11 (by decide) HC.out).mono ?_
  rintro e w12 ⟨vt, vp, rfl, hrt, hrp, hb12⟩
  have X12 := Aside0.mk (blk_next X11.out hb12)
  have Y12 := Aside0.mk (Y11.out.trans (hb12.mono Y11.out.size))
  obtain ⟨gt, ct, rfl, hcell⟩ := seg_one hrt
  obtain ⟨Ap, cp, rfl, -⟩ := Kd.R_reads hrp
  have HT := Aside0.mk (And.intro hcell (R_lt_ hrt))
  clear hrt hrp hcell hb12 X11 Y11 HC
  go_wp2_with (first
    | ((with_reducible refine gate_store (t := 43) (p := 9) (v := .tmp 57) rfl ?_); refine store_block (u := .agg #[.int .u8 0, .slice (some ⟨gt, 0, none⟩) 1 ct, .slice none 0 0, .slice none 0 0, .int .i64 0, .int .i64 0, .slice Ap (List.replicate 1 z120).length cp]) rfl rfl rfl [.int .u8 0, .slice (some ⟨gt, 0, none⟩) 1 ct, .slice none 0 0, .slice none 0 0, .int .i64 0, .int .i64 0, .slice Ap (List.replicate 1 z120).length cp] ?addr ?ex X12.out ?eu ?ht ?hf ?h1 ?_; (case hf => rfl); (case addr => rfl); (case ex => rfl); (case eu => rfl); (case ht => kernel_rfl); (case h1 => intro q hq; simp only [List.mem_cons, List.not_mem_nil, or_false] at hq; rcases hq with rfl | rfl | rfl | rfl | rfl | rfl | rfl <;> rfl); intro w13 hW13 hG13; have d1 : w13.cell? ⟨g9, 1, none⟩ = some (.slice (some ⟨gt, 0, none⟩) 1 ct) := cell_at hW13 1; have d2 : w13.cell? ⟨gt, 1, none⟩ = some (.int .u64 18446744073709551615) := cell_far HT.out.1 X12.out (by decide) HT.out.2 hG13; have Y13 := Aside0.mk (Y12.out.grown hG13 Y12.out.size (fun k e => by cases e; exact G9.out)); clear hW13 hG13))
  go_ret
  exact ⟨rfl, Y13.out⟩
end Go.Proofs.YtcpcllfmepfjgaaGreatDoor.core
