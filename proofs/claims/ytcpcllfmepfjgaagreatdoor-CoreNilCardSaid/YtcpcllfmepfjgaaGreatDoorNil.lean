/- A nil core: what Apply, State and Tick say of it. No condition. -/
import Derived.Test.YtcpcllfmepfjgaaGreatDoorTwin
namespace Go.Proofs.YtcpcllfmepfjgaaGreatDoor.core
open Go.RowKit Go.Proofs.YtcpcllfmepfjgaaGreatDoorW.PrintWords Go.Proofs.YtcpcllfmepfjgaaGreatDoorW.PrintLast Go.Proofs.YtcpcllfmepfjgaaGreatDoorW.PrintMore Go.Proofs.YtcpcllfmepfjgaaGreatDoor.PCoreNil
set_option linter.unusedVariables false
set_option linter.unusedSimpArgs false

set_option maxHeartbeats 1000000 in
set_option maxRecDepth 100000 in
theorem applyNil (src a0 a1 a2 a3 : Int) (v4 v5 : Value) (a6 : Bool) (a7 a8 a9 a10 a11 a12 a13 : Int) (v14 v15 v16 : Value) (h4 : v4.oneCell' = true) (h5 : v5.oneCell' = true) (h14 : v14.oneCell' = true) (h15 : v15.oneCell' = true) (h16 : v16.oneCell' = true) (w : World) :
    Calls Tryz.prog 4 #[.pointer none, .int .u8 src, .agg (msgL a0 a1 a2 a3 v4 v5 a6 a7 a8 a9 a10 a11 a12 a13 v14 v15 v16).toArray] w fun e w' =>
      e = .returned (.tuple #[.slice none 0 0, .bool false, .int .i64 1]) ∧ Below w.heap.size w w' := by
  have hu := Tryz.underlying31
  go_enter Tryz.func4, Tryz.ntmps4
  go_wp2_with (first
    | ((with_reducible refine gate_dst (N := 5) rfl ?_); refine box_event ?hg (N := 5) ?hd (cs := (msgL a0 a1 a2 a3 v4 v5 a6 a7 a8 a9 a10 a11 a12 a13 v14 v15 v16).toArray) (t := 31) ?hr ?_; (case hd => rfl); (case hg => rfl); (case hr => first | (go_simp; done) | (go_simp; rfl)); intro g1 hg1 w1 hbox1 hb1; have Y1 := Aside0.mk hb1; clear hg1 hbox1 hb1))
  refine bodyPost_ret (by simp [results, go_sem]) rfl ⟨rfl, Y1.out⟩

set_option maxHeartbeats 1000000 in
set_option maxRecDepth 100000 in
theorem stateNil (w : World) : Calls Tryz.prog 6 #[.pointer none] w fun e w' =>
    e = .returned (.agg #[.int .u8 0, .slice none 0 0, .slice none 0 0, .slice none 0 0, .int .i64 0, .int .i64 0, .slice none 0 0]) ∧ Below w.heap.size w w' := by
  have hu := Tryz.underlying43
  go_enter Tryz.func6, Tryz.ntmps6
  go_wp2_with fail
  refine bodyPost_ret (by simp [results, go_sem, hu]) rfl ⟨rfl, (Below.refl _ _).alloc (Nat.le_refl _) _⟩

theorem tickNil (w : World) : Calls Tryz.prog 7 #[.pointer none] w fun e w' => e = .returned (.slice none 0 0) ∧ Below w.heap.size w w' := by
  go_enter Tryz.func7, Tryz.ntmps7
  go_wp2_with fail
  go_ret
  exact ⟨rfl, Below.refl _ _⟩
theorem same_nil : shardref10_SameState.f 40 0 [] [] [] 0 0 [] 0 [] [] [] 0 0 [] = some true := by decide +kernel
end Go.Proofs.YtcpcllfmepfjgaaGreatDoor.core
