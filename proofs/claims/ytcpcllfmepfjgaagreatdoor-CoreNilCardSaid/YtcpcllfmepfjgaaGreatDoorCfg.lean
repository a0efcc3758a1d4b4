/- Plain: whether a configuration may be: the program's answer and the reference's are one. -/
import Derived.Test.YtcpcllfmepfjgaaGreatDoorQCoreNilx7
namespace Go.Proofs.YtcpcllfmepfjgaaGreatDoor.core
open Go.RowKit Go.Proofs.YtcpcllfmepfjgaaGreatDoorW.PrintWords Go.Proofs.YtcpcllfmepfjgaaGreatDoorW.PrintLast Go.Proofs.YtcpcllfmepfjgaaGreatDoorW.PrintMore Go.Proofs.YtcpcllfmepfjgaaGreatDoor.PCoreNil
set_option linter.unusedVariables false

def GoodA (h cl pa bo : Int) : Prop := (1 ≤ h ∧ h ≤ 16) ∧ (0 ≤ cl ∧ cl ≤ 16) ∧ (0 ≤ pa ∧ pa ≤ 1024) ∧ (0 ≤ bo ∧ bo ≤ 256)
def GoodB (q wi gr ke : Int) : Prop := (1 ≤ q ∧ q ≤ 16) ∧ (1 ≤ wi ∧ wi ≤ q) ∧ (1 ≤ gr ∧ gr ≤ 64) ∧ (1 ≤ ke ∧ ke ≤ 1024)
def GoodC (mt ne pt tr : Int) : Prop := (64 ≤ mt ∧ mt ≤ 1024) ∧ (1 ≤ ne ∧ ne ≤ 4096) ∧ (1 ≤ pt ∧ pt ≤ 64) ∧ (1 ≤ tr ∧ tr ≤ 64)
instance (h cl pa bo : Int) : Decidable (GoodA h cl pa bo) := by unfold GoodA; infer_instance
instance (h cl pa bo : Int) : Decidable (GoodB h cl pa bo) := by unfold GoodB; infer_instance
instance (h cl pa bo : Int) : Decidable (GoodC h cl pa bo) := by unfold GoodC; infer_instance
def Good (h cl pa bo q wi gr ke mt ne pt tr : Int) : Prop := GoodA h cl pa bo ∧ GoodB q wi gr ke ∧ GoodC mt ne pt tr
instance (h cl pa bo q wi gr ke mt ne pt tr : Int) : Decidable (Good h cl pa bo q wi gr ke mt ne pt tr) := by unfold Good; infer_instance

theorem within_eq (n a b : Int) : core_within.f n a b = some (decide (a ≤ n ∧ n ≤ b)) := by
  unfold core_within.f
  by_cases h : n ≥ a
  · rw [if_pos h]; congr 1; simp; omega
  · rw [if_neg h]; congr 1; simp; omega
set_option maxHeartbeats 2000000 in
theorem chk_prog (h cl pa bo q wi gr ke mt ne pt tr : Int) : core_CheckConfig.f h cl pa bo q wi gr ke mt ne pt tr = some (if Good h cl pa bo q wi gr ke mt ne pt tr then 0 else 100) := by
  simp only [core_CheckConfig.f, within_eq, Option.bind_some, decide_eq_true_eq]
  repeat' split
  all_goals first | rfl | (exfalso; simp only [Good, GoodA, GoodB, GoodC] at *; omega)

end Go.Proofs.YtcpcllfmepfjgaaGreatDoor.core
