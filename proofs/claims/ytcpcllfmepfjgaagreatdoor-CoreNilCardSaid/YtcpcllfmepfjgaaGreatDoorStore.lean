/- A store of several cells into a block of which all is known, the world a letter. -/
import Derived.Test.YtcpcllfmepfjgaaGreatDoorCoreNew2
namespace Go.Proofs.YtcpcllfmepfjgaaGreatDoor.core
open Go.RowKit Go.Proofs.YtcpcllfmepfjgaaGreatDoorW.PrintWords Go.Proofs.YtcpcllfmepfjgaaGreatDoorW.PrintLast Go.Proofs.YtcpcllfmepfjgaaGreatDoorW.PrintMore Go.Proofs.YtcpcllfmepfjgaaGreatDoor.PCoreNil
set_option linter.unusedVariables false

theorem setCells_grown (W : World) (g o : Nat) (vs : List Value) : W.grownBy (W.setCells g o vs) (some g) :=
  ⟨(setCells_same g vs o W).1, (setCells_same g vs o W).2.1, (setCells_same g vs o W).2.2.1, Nat.le_of_eq (setCells_same g vs o W).2.2.2.symm, fun k _ hk => setCells_far vs o k (fun e => hk (by rw [e]))⟩
theorem setCells_block {W : World} {g o : Nat} {vs : List Value} {cur cur' : Array Value} {e : TypeId} (hh : W.heap[g]? = some (.cells cur e (0, 0))) (hfit : o + vs.length ≤ cur.size) (hc : cur'.toList = cur.toList.take o ++ vs ++ cur.toList.drop (o + vs.length)) :
    (W.setCells g o vs).heap[g]? = some (.cells cur' e (0, 0)) := by
  obtain ⟨c, h1, h2, h3⟩ := setCells_row vs o W cur hh hfit
  have : c = cur' := by apply Array.toList_inj.1; rw [h3, hc]
  rw [← this]; exact h1
theorem store_block {P : Program} {ops : Array Oper} {rest : List Oper} {o : Oper} {a : Act} {Q : Exit → Act → World → Prop} {W : World} (hN : o.dst = none) (hgd : o.guard = none) {t : TypeId} {p x : Operand} (ho : o.op = .store t p x) {g : Nat} {cur : Array Value} {e : TypeId} {u : Value} (seg : List Value)
    (haddr : a.eval p = .pointer (some ⟨g, 0, none⟩)) (hx : a.eval x = u) (hh : W.heap[g]? = some (.cells cur e (0, 0))) (hu : u.cells.toList = seg) (ht : (P.info? t).map (·.size) = some seg.length) (hfit : seg.length = cur.size) (h1 : ∀ q ∈ seg, q.oneCell' = true)
    (h : ∀ W1, W1.heap[g]? = some (.cells seg.toArray e (0, 0)) → W.grownBy W1 (some g) → wpList P ops Q rest a W1) : wpList P ops Q (o :: rest) a W := by
  refine wpList_plain hgd fun K hK => ?_
  have hrun : (Instr.storeAt t (.pointer (some ⟨g, 0, none⟩)) u).run P W = .ok () (W.setCells g 0 seg) := run_store_run t u seg hh hu ht (by omega) h1
  unfold Oper.wp execOp
  simp only [ho, haddr, hx, Sem.run_bind, Sem.run_pure, Result.andThen_ok, hrun]
  show K (a.put o.dst undef) _
  rw [hN]
  exact hK _ _ (h _ (setCells_block hh (by omega) (by simp [List.drop_eq_nil_of_le, hfit])) (setCells_grown W g 0 seg))
end Go.Proofs.YtcpcllfmepfjgaaGreatDoor.core
