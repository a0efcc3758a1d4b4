/- The law's copy of a message: it comes back, with lists of its own. Conditions: the lists' lengths fit a machine. -/
import Derived.Test.YtcpcllfmepfjgaaGreatDoorBlock
import Derived.Test.YtcpcllfmepfjgaaGreatDoorCopies
namespace Go.Proofs.YtcpcllfmepfjgaaGreatDoor.core
open Go.RowKit Go.Proofs.YtcpcllfmepfjgaaGreatDoorW.PrintWords Go.Proofs.YtcpcllfmepfjgaaGreatDoorW.PrintLast Go.Proofs.YtcpcllfmepfjgaaGreatDoorW.PrintMore Go.Proofs.YtcpcllfmepfjgaaGreatDoor.PCoreNil
set_option linter.unusedVariables false
set_option linter.unusedSimpArgs false

def msgL (a0 a1 a2 a3 : Int) (v4 v5 : Value) (a6 : Bool) (a7 a8 a9 a10 a11 a12 a13 : Int) (v14 v15 v16 : Value) : List Value :=
  [.int .u8 a0, .int .u64 a1, .int .u64 a2, .int .u64 a3, v4, v5, .bool a6, .int .u8 a7, .int .u8 a8, .int .u8 a9, .int .u32 a10, .int .u32 a11, .int .u64 a12, .int .u8 a13, v14, v15, v16]
/-- What stands while the copy is made: the blocks of the message, of the result, of the copy. -/
structure Tw (w W : World) (b1 b2 b3 : Nat) (M Z N : Array Value) : Prop where
  below : Below w.heap.size w W
  h1 : W.heap[b1]? = some (.cells M 31 (0, 0))
  h2 : W.heap[b2]? = some (.cells Z 31 (0, 0))
  h3 : W.heap[b3]? = some (.cells N 31 (0, 0))
  n1 : w.heap.size ≤ b1
  n2 : b1 < b2
  n3 : b2 < b3
theorem Tw.call {w W W' : World} {b1 b2 b3 : Nat} {M Z N : Array Value} (h : Tw w W b1 b2 b3 M Z N) (hb : Below W.heap.size W W') : Tw w W' b1 b2 b3 M Z N :=
  ⟨h.below.trans (hb.mono h.below.size), (hb.block _ (Array.getElem?_eq_some_iff.1 h.h1).1).trans h.h1, (hb.block _ (Array.getElem?_eq_some_iff.1 h.h2).1).trans h.h2, (hb.block _ (Array.getElem?_eq_some_iff.1 h.h3).1).trans h.h3, h.n1, h.n2, h.n3⟩
theorem Tw.set {w W W' : World} {b1 b2 b3 : Nat} {M Z N N' : Array Value} (h : Tw w W b1 b2 b3 M Z N) (hn : W'.heap[b3]? = some (.cells N' 31 (0, 0))) (hg : W.grownBy W' (some b3)) : Tw w W' b1 b2 b3 M Z N' :=
  ⟨h.below.grown hg h.below.size (fun k e => by cases e; have := h.n1; have := h.n2; have := h.n3; omega),
    (hg.block _ (Array.getElem?_eq_some_iff.1 h.h1).1 (fun e => by injection e with e; have := h.n2; have := h.n3; omega)).trans h.h1, (hg.block _ (Array.getElem?_eq_some_iff.1 h.h2).1 (fun e => by injection e with e; have := h.n3; omega)).trans h.h2, hn, h.n1, h.n2, h.n3⟩
theorem Tw.none {w W W' : World} {b1 b2 b3 : Nat} {M Z N : Array Value} (h : Tw w W b1 b2 b3 M Z N) (hg : W.grownBy W' none) : Tw w W' b1 b2 b3 M Z N :=
  ⟨h.below.grown hg h.below.size (fun k e => by cases e), (hg.block _ (Array.getElem?_eq_some_iff.1 h.h1).1 (by simp)).trans h.h1, (hg.block _ (Array.getElem?_eq_some_iff.1 h.h2).1 (by simp)).trans h.h2, (hg.block _ (Array.getElem?_eq_some_iff.1 h.h3).1 (by simp)).trans h.h3, h.n1, h.n2, h.n3⟩
def zmsg : Array Value := #[.int .u8 0, .int .u64 0, .int .u64 0, .int .u64 0, .slice none 0 0, .slice none 0 0, .bool false, .int .u8 0, .int .u8 0, .int .u8 0, .int .u32 0, .int .u32 0, .int .u64 0, .int .u8 0, .slice none 0 0, .slice none 0 0, .slice none 0 0]

set_option maxHeartbeats 4000000 in
set_option maxRecDepth 100000 in
theorem twin (a0 a1 a2 a3 : Int) (A4 : Option Addr) (c4 : Nat) (l4 : List Int) (A5 : Option Addr) (c5 : Nat) (l5 : List Int) (a6 : Bool) (a7 a8 a9 a10 a11 a12 a13 : Int) (A14 : Option Addr) (c14 : Nat) (l14 : List S101) (A15 : Option Addr) (c15 : Nat) (l15 : List S76) (A16 : Option Addr) (c16 : Nat) (l16 : List Int) (w : World)
    (hr4 : Kd.C (Kd.int .u8) w A4 l4.length l4) (hc4 : l4.length ≤ c4) (hr5 : Kd.C (Kd.int .u8) w A5 l5.length l5) (hc5 : l5.length ≤ c5) (hr14 : Kd.C k101 w A14 l14.length l14) (hc14 : l14.length ≤ c14) (hr15 : Kd.C k76 w A15 l15.length l15) (hc15 : l15.length ≤ c15) (hr16 : Kd.C (Kd.int .u8) w A16 l16.length l16) (hc16 : l16.length ≤ c16)
    (b4 : l4.length < 140737488355312) (b5 : l5.length < 140737488355312) (b16 : l16.length < 140737488355312) (b14 : l14.length < 4398046511104) (b14' : ∀ x ∈ l14, x.f1.length < 140737488355312) (b15 : l15.length < 5864062014805) :
    Calls Tryz.prog 5 #[.agg (msgL a0 a1 a2 a3 (.slice A4 l4.length c4) (.slice A5 l5.length c5) a6 a7 a8 a9 a10 a11 a12 a13 (.slice A14 l14.length c14) (.slice A15 l15.length c15) (.slice A16 l16.length c16)).toArray] w fun e w' =>
      ∃ v4 v5 v14 v15 v16 : Value, e = .returned (.agg (msgL a0 a1 a2 a3 v4 v5 a6 a7 a8 a9 a10 a11 a12 a13 v14 v15 v16).toArray) ∧ (v4.oneCell' = true ∧ v5.oneCell' = true ∧ v14.oneCell' = true ∧ v15.oneCell' = true ∧ v16.oneCell' = true) ∧ Below w.heap.size w w' := by
  have hu := Tryz.underlying31
  have R4 := Aside0.mk (fun w' hb => shardlaw10_roomy.calls (l4.length + 17) A4 c4 l4 l4 w' (Kd.C_below hr4 hb) hc4 (roomy_f l4 b4 _ (by omega)))
  have R5 := Aside0.mk (fun w' hb => shardlaw10_roomy.calls (l5.length + 17) A5 c5 l5 l5 w' (Kd.C_below hr5 hb) hc5 (roomy_f l5 b5 _ (by omega)))
  have R16 := Aside0.mk (fun w' hb => shardlaw10_roomy.calls (l16.length + 17) A16 c16 l16 l16 w' (Kd.C_below hr16 hb) hc16 (roomy_f l16 b16 _ (by omega)))
  have R14 := Aside0.mk (fun w' hb => shardref10_Pairs.calls (l14.length + 140737488355313) A14 c14 l14 l14 w' (Kd.C_below hr14 hb) hc14 (pairs_f l14 140737488355312 b14 b14' (by omega) _ (by omega)))
  have R15 := Aside0.mk (fun w' hb => Kd.C_below (w1 := w') hr15 hb)
  have B15 := Aside0.mk b15
  clear hr4 hc4 hr5 hc5 hr14 hc14 hr15 hr16 hc16 b4 b5 b16 b14 b14' b15
  go_enter Tryz.func5, Tryz.ntmps5
  go_wp2_with (first
    | ((with_reducible refine gate_dst (N := 1) rfl ?_); refine box_event ?hg (N := 1) ?hd (cs := (msgL a0 a1 a2 a3 (.slice A4 l4.length c4) (.slice A5 l5.length c5) a6 a7 a8 a9 a10 a11 a12 a13 (.slice A14 l14.length c14) (.slice A15 l15.length c15) (.slice A16 l16.length c16)).toArray) (t := 31) ?hr ?_; (case hd => rfl); (case hg => rfl); (case hr => first | (go_simp; done) | (go_simp; rfl)); intro g1 hg1 w1 hbox1 hb1; have G1 := Aside0.mk (Nat.le_of_eq hg1.symm); have X1 := Aside0.mk hbox1; have Y1 := Aside0.mk hb1; clear hg1 hbox1 hb1)
    | ((with_reducible refine gate_dst (N := 2) rfl ?_); refine box_event ?hg (N := 2) ?hd (cs := zmsg) (t := 31) ?hr ?_; (case hd => rfl); (case hg => rfl); (case hr => first | (go_simp; done) | (go_simp; rfl)); intro g2 hg2 w2 hbox2 hb2; have G2 := Aside0.mk (show g1 < g2 by rw [hg2]; exact (Array.getElem?_eq_some_iff.1 X1.out).1); have X2 := Aside0.mk (And.intro ((hb2.block _ (Array.getElem?_eq_some_iff.1 X1.out).1).trans X1.out) hbox2); have Y2 := Aside0.mk (Y1.out.trans (hb2.mono Y1.out.size)); clear hg2 hbox2 hb2)
    | ((with_reducible refine gate_dst (N := 4) rfl ?_); refine load_block (t := 31) (p := .tmp 1) rfl rfl ?haddr X2.out.1 Tryz.underlying31 ?hd ?hi ?_; (case haddr => rfl); (case hd => rfl); (case hi => kernel_rfl))
    | ((with_reducible refine gate_dst (N := 3) rfl ?_); refine box_event ?hg (N := 3) ?hd (cs := zmsg) (t := 31) ?hr ?_; (case hd => rfl); (case hg => rfl); (case hr => first | (go_simp; done) | (go_simp; rfl)); intro g3 hg3 w3 hbox3 hb3; have G3 := Aside0.mk (show g2 < g3 by rw [hg3]; exact (Array.getElem?_eq_some_iff.1 X2.out.2).1); have X3 := Aside0.mk (show Tw w w3 g1 g2 g3 (msgL a0 a1 a2 a3 (.slice A4 l4.length c4) (.slice A5 l5.length c5) a6 a7 a8 a9 a10 a11 a12 a13 (.slice A14 l14.length c14) (.slice A15 l15.length c15) (.slice A16 l16.length c16)).toArray zmsg zmsg from ⟨Y2.out.trans (hb3.mono Y2.out.size), (hb3.block _ (Array.getElem?_eq_some_iff.1 X2.out.1).1).trans X2.out.1, (hb3.block _ (Array.getElem?_eq_some_iff.1 X2.out.2).1).trans X2.out.2, hbox3, G1.out, G2.out, G3.out⟩); clear hg3 hbox3 hb3)
    | ((with_reducible refine gate_store (t := 31) (p := 3) (v := .tmp 4) rfl ?_); refine store_block (u := .agg (msgL a0 a1 a2 a3 (.slice A4 l4.length c4) (.slice A5 l5.length c5) a6 a7 a8 a9 a10 a11 a12 a13 (.slice A14 l14.length c14) (.slice A15 l15.length c15) (.slice A16 l16.length c16)).toArray) rfl rfl rfl (msgL a0 a1 a2 a3 (.slice A4 l4.length c4) (.slice A5 l5.length c5) a6 a7 a8 a9 a10 a11 a12 a13 (.slice A14 l14.length c14) (.slice A15 l15.length c15) (.slice A16 l16.length c16)).toArray.toList ?addr ?ex X3.out.h3 ?eu ?ht ?hf ?h1 ?_; (case hf => rfl); (case addr => rfl); (case ex => rfl); (case eu => rfl); (case ht => kernel_rfl); (case h1 => intro q hq; simp only [msgL, List.mem_cons, List.not_mem_nil, or_false] at hq; rcases hq with rfl | rfl | rfl | rfl | rfl | rfl | rfl | rfl | rfl | rfl | rfl | rfl | rfl | rfl | rfl | rfl | rfl <;> rfl); intro w4 hW4 hG4; have X4 := Aside0.mk (X3.out.set hW4 hG4); have d4 : w4.cell? ⟨g1, 4, none⟩ = some (.slice A4 l4.length c4) := cell_at X4.out.h1 4; clear hW4 hG4))
  refine (R4.out _ X4.out.below).mono ?_
  rintro e u4 ⟨y4, rfl, hy, hb⟩
  obtain ⟨B4, e4, rfl⟩ := Kd.R_slice hy
  have X5 := Aside0.mk (X4.out.call hb)
  clear hy hb
  go_wp2_with ((with_reducible refine gate_store (t := 25) (p := 8) (v := .tmp 7) rfl ?_); refine store_cell (j := 4) (u := (.slice B4 l4.length e4)) (cur' := (msgL a0 a1 a2 a3 (.slice B4 l4.length e4) (.slice A5 l5.length c5) a6 a7 a8 a9 a10 a11 a12 a13 (.slice A14 l14.length c14) (.slice A15 l15.length c15) (.slice A16 l16.length c16)).toArray) rfl rfl (t := 25) (p := .tmp 8) (x := .tmp 7) rfl ?addr ?ex X5.out.h3 ?hj rfl rfl ?ht rfl ?_; (case addr => rfl); (case ex => rfl); (case hj => exact (by decide : 4 < 17)); (case ht => kernel_rfl); intro w6 hW hG; have X6 := Aside0.mk (X5.out.set hW hG); clear hW hG; have d5 : w6.cell? ⟨g1, 5, none⟩ = some (.slice A5 l5.length c5) := cell_at X6.out.h1 5)
  refine (R5.out _ X6.out.below).mono ?_
  rintro e u6 ⟨y5, rfl, hy, hb⟩
  obtain ⟨B5, e5, rfl⟩ := Kd.R_slice hy
  have X7 := Aside0.mk (X6.out.call hb)
  clear hy hb
  go_wp2_with ((with_reducible refine gate_store (t := 25) (p := 12) (v := .tmp 11) rfl ?_); refine store_cell (j := 5) (u := (.slice B5 l5.length e5)) (cur' := (msgL a0 a1 a2 a3 (.slice B4 l4.length e4) (.slice B5 l5.length e5) a6 a7 a8 a9 a10 a11 a12 a13 (.slice A14 l14.length c14) (.slice A15 l15.length c15) (.slice A16 l16.length c16)).toArray) rfl rfl (t := 25) (p := .tmp 12) (x := .tmp 11) rfl ?addr ?ex X7.out.h3 ?hj rfl rfl ?ht rfl ?_; (case addr => rfl); (case ex => rfl); (case hj => exact (by decide : 5 < 17)); (case ht => kernel_rfl); intro w8 hW hG; have X8 := Aside0.mk (X7.out.set hW hG); clear hW hG; have d16 : w8.cell? ⟨g1, 16, none⟩ = some (.slice A16 l16.length c16) := cell_at X8.out.h1 16)
  refine (R16.out _ X8.out.below).mono ?_
  rintro e u8 ⟨y16, rfl, hy, hb⟩
  obtain ⟨B16, e16, rfl⟩ := Kd.R_slice hy
  have X9 := Aside0.mk (X8.out.call hb)
  clear hy hb
  go_wp2_with ((with_reducible refine gate_store (t := 25) (p := 16) (v := .tmp 15) rfl ?_); refine store_cell (j := 16) (u := (.slice B16 l16.length e16)) (cur' := (msgL a0 a1 a2 a3 (.slice B4 l4.length e4) (.slice B5 l5.length e5) a6 a7 a8 a9 a10 a11 a12 a13 (.slice A14 l14.length c14) (.slice A15 l15.length c15) (.slice B16 l16.length e16)).toArray) rfl rfl (t := 25) (p := .tmp 16) (x := .tmp 15) rfl ?addr ?ex X9.out.h3 ?hj rfl rfl ?ht rfl ?_; (case addr => rfl); (case ex => rfl); (case hj => exact (by decide : 16 < 17)); (case ht => kernel_rfl); intro w10 hW hG; have X10 := Aside0.mk (X9.out.set hW hG); clear hW hG; have d14 : w10.cell? ⟨g1, 14, none⟩ = some (.slice A14 l14.length c14) := cell_at X10.out.h1 14)
  refine (R14.out _ X10.out.below).mono ?_
  rintro e u10 ⟨y14, rfl, hy, hb⟩
  obtain ⟨B14, e14, rfl, -⟩ := Kd.S_reads hy
  have X11 := Aside0.mk (X10.out.call hb)
  clear hy hb
  go_wp2_with (first
    | ((with_reducible refine gate_store (t := 28) (p := 20) (v := .tmp 19) rfl ?_); refine store_cell (j := 14) (u := (.slice B14 l14.length e14)) (cur' := (msgL a0 a1 a2 a3 (.slice B4 l4.length e4) (.slice B5 l5.length e5) a6 a7 a8 a9 a10 a11 a12 a13 (.slice B14 l14.length e14) (.slice A15 l15.length c15) (.slice B16 l16.length e16)).toArray) rfl rfl (t := 28) (p := .tmp 20) (x := .tmp 19) rfl ?addr ?ex X11.out.h3 ?hj rfl rfl ?ht rfl ?_; (case addr => rfl); (case ex => rfl); (case hj => exact (by decide : 14 < 17)); (case ht => kernel_rfl); intro w12 hW hG; have X12 := Aside0.mk (X11.out.set hW hG); clear hW hG)
    | ((with_reducible refine gate_store (t := 29) (p := 21) (v := .const (.slice none 0 0)) rfl ?_); refine store_cell (j := 15) (u := (.slice none 0 0)) (cur' := (msgL a0 a1 a2 a3 (.slice B4 l4.length e4) (.slice B5 l5.length e5) a6 a7 a8 a9 a10 a11 a12 a13 (.slice B14 l14.length e14) (.slice none 0 0) (.slice B16 l16.length e16)).toArray) rfl rfl (t := 29) (p := .tmp 21) (x := .const (.slice none 0 0)) rfl ?addr ?ex X12.out.h3 ?hj rfl rfl ?ht rfl ?_; (case addr => rfl); (case ex => rfl); (case hj => exact (by decide : 15 < 17)); (case ht => kernel_rfl); intro w13 hW hG; have X13 := Aside0.mk (X12.out.set hW hG); have d15 : w13.cell? ⟨g1, 15, none⟩ = some (.slice A15 l15.length c15) := cell_at X13.out.h1 15; have f15 : w13.cell? ⟨g3, 15, none⟩ = some (.slice none 0 0) := cell_at X13.out.h3 15; clear hW hG)
    | ((with_reducible refine gate_builtin (b := .append) (xs := #[.tmp 23, .tmp 25]) rfl ?_); at_builtin; refine Kd.R_append_rows k76 (w0 := w) w.heap.size rfl (.tmp 23) (.tmp 25) 29 76 (.agg #[(.int .u8 0), (.int .u64 0), (.int .u8 0)]) 24 rfl Tryz.underlying29 info76 rfl (by decide) (by omega) (.slice none 0 0) ([] : List S76) l15 _ _ _ (fun _ => True) (fun _ => False) rfl rfl ?aO ?aR (fun _ _ h => h) (fun _ h => h.elim) ?aF ?aB ?aS ?aL ?_; (case aR => exact R15.out _ X13.out.below); (case aB => exact X13.out.below); (case aF => exact (fun _ _ => trivial)); (case aO => exact (Kd.R_nil _ _ _ _ (fun _ => True))); (case aS => exact X13.out.below.size); (case aL => have := B15.out; simp only [List.length_nil]; omega); intro y15 w14 ho hb hg hat; clear hb hat; obtain ⟨B15', e15, rfl⟩ := Kd.R_slice ho; have X14 := Aside0.mk (X13.out.none hg); clear ho hg d15 f15)
    | ((with_reducible refine gate_store (t := 29) (p := 27) (v := .tmp 26) rfl ?_); refine store_cell (j := 15) (u := (.slice B15' ([] ++ l15 : List S76).length e15)) (cur' := (msgL a0 a1 a2 a3 (.slice B4 l4.length e4) (.slice B5 l5.length e5) a6 a7 a8 a9 a10 a11 a12 a13 (.slice B14 l14.length e14) (.slice B15' ([] ++ l15 : List S76).length e15) (.slice B16 l16.length e16)).toArray) rfl rfl (t := 29) (p := .tmp 27) (x := .tmp 26) rfl ?addr ?ex X14.out.h3 ?hj rfl rfl ?ht rfl ?_; (case addr => rfl); (case ex => rfl); (case hj => exact (by decide : 15 < 17)); (case ht => kernel_rfl); intro w15 hW hG; have X15 := Aside0.mk (X14.out.set hW hG); clear hW hG)
    | ((with_reducible refine gate_dst (N := 28) rfl ?_); refine load_block (t := 31) (p := .tmp 3) rfl rfl ?haddr X15.out.h3 Tryz.underlying31 ?hd ?hi ?_; (case haddr => rfl); (case hd => rfl); (case hi => kernel_rfl))
    | ((with_reducible refine gate_store (t := 31) (p := 2) (v := .tmp 28) rfl ?_); refine store_block (u := .agg (msgL a0 a1 a2 a3 (.slice B4 l4.length e4) (.slice B5 l5.length e5) a6 a7 a8 a9 a10 a11 a12 a13 (.slice B14 l14.length e14) (.slice B15' ([] ++ l15 : List S76).length e15) (.slice B16 l16.length e16)).toArray) rfl rfl rfl (msgL a0 a1 a2 a3 (.slice B4 l4.length e4) (.slice B5 l5.length e5) a6 a7 a8 a9 a10 a11 a12 a13 (.slice B14 l14.length e14) (.slice B15' ([] ++ l15 : List S76).length e15) (.slice B16 l16.length e16)).toArray.toList ?addr ?ex X15.out.h2 ?eu ?ht ?hf ?h1 ?_; (case hf => rfl); (case addr => rfl); (case ex => rfl); (case eu => rfl); (case ht => kernel_rfl); (case h1 => intro q hq; simp only [msgL, List.mem_cons, List.not_mem_nil, or_false] at hq; rcases hq with rfl | rfl | rfl | rfl | rfl | rfl | rfl | rfl | rfl | rfl | rfl | rfl | rfl | rfl | rfl | rfl | rfl <;> rfl); intro we hWe hGe; have HE := Aside0.mk hWe; have GE := Aside0.mk hGe; clear hWe hGe))
  refine bodyPost_ret (results_cell_row rfl _ _ g2 31 (msgL a0 a1 a2 a3 (.slice B4 l4.length e4) (.slice B5 l5.length e5) a6 a7 a8 a9 a10 a11 a12 a13 (.slice B14 l14.length e14) (.slice B15' ([] ++ l15 : List S76).length e15) (.slice B16 l16.length e16)).toArray (0, 0) _ rfl HE.out Tryz.underlying31 rfl (by kernel_rfl)) rfl ⟨_, _, _, _, _, rfl, ⟨rfl, rfl, rfl, rfl, rfl⟩, X15.out.below.grown GE.out X15.out.below.size (fun k e => by cases e; have := X15.out.n1; have := X15.out.n2; omega)⟩
end Go.Proofs.YtcpcllfmepfjgaaGreatDoor.core
