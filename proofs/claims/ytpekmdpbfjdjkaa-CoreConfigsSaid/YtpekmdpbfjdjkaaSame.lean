/- Two hosts at the start, alike: the document's comparison says so. -/
import Derived.Test.YtpekmdpbfjdjkaaQCoreConfigsx8
namespace Go.Proofs.Ytpekmdpbfjdjkaa.core
open Go.RowKit Go.Proofs.YtpekmdpbfjdjkaaW.PrintWords Go.Proofs.YtpekmdpbfjdjkaaW.PrintLast Go.Proofs.YtpekmdpbfjdjkaaW.PrintMore Go.Proofs.Ytpekmdpbfjdjkaa.PCoreConfigs
set_option linter.unusedVariables false
set_option maxRecDepth 100000 in
theorem same_start (self pa bo : Int) : ∀ H : Nat, H ≤ 16 → shardref10_SameState.f 40 self [⟨0, 18446744073709551615, 0⟩] [] [] pa bo (List.replicate H z122) self [⟨0, 18446744073709551615, 0⟩] [] [] pa bo (List.replicate H z122) = some true := by
  intro H hH
  have hc : ∀ H : Fin 17, shardref10_SameState.f 40 0 [⟨0, 18446744073709551615, 0⟩] [] [] 0 0 (List.replicate H z122) 0 [⟨0, 18446744073709551615, 0⟩] [] [] 0 0 (List.replicate H z122) = some true := by decide +kernel
  have h := hc ⟨H, by omega⟩
  unfold shardref10_SameState.f at h ⊢
  simpa using h
end Go.Proofs.Ytpekmdpbfjdjkaa.core
