/- A struct of many cells in a block of which all is known: loaded whole, one of its cells written; the world a letter. No condition. -/
import Derived.Test.YtcpcllfmepfjgaaGreatDoorStore
import Derived.Deep.MidRow
namespace Go.Proofs.YtcpcllfmepfjgaaGreatDoor.core
open Go.RowKit Go.Proofs.YtcpcllfmepfjgaaGreatDoorW.PrintWords Go.Proofs.YtcpcllfmepfjgaaGreatDoorW.PrintLast Go.Proofs.YtcpcllfmepfjgaaGreatDoorW.PrintMore Go.Proofs.YtcpcllfmepfjgaaGreatDoor.PCoreNil
set_option linter.unusedVariables false

theorem load_block {P : Program} {ops : Array Oper} {rest : List Oper} {o : Oper} {a : Act} {Q : Exit → Act → World → Prop} {W : World} (hgd : o.guard = none) {t : TypeId} {p : Operand} (ho : o.op = .load t p) {g : Nat} {cs : Array Value} {e : TypeId} {d : TypeDesc}
    (haddr : a.eval p = .pointer (some ⟨g, 0, none⟩)) (hh : W.heap[g]? = some (.cells cs e (0, 0))) (hu : P.underlying t = some d) (hd : d.isRow = true) (hi : (P.info? t).map (·.size) = some cs.size)
    (h : wpList P ops Q rest (a.put o.dst (.agg cs)) W) : wpList P ops Q (o :: rest) a W :=
  wpList_load_mid (op := o) hgd t p ho g 0 haddr cs.toList d (fun j v hv => by rw [Nat.zero_add, cell_at hh j]; simpa using hv) hu hd (by simpa using hi) (by simpa using h)

theorem store_cell {P : Program} {ops : Array Oper} {rest : List Oper} {o : Oper} {a : Act} {Q : Exit → Act → World → Prop} {W : World} (hN : o.dst = none) (hgd : o.guard = none) {t : TypeId} {p x : Operand} (ho : o.op = .store t p x) {g j : Nat} {cur cur' : Array Value} {e : TypeId} {u : Value}
    (haddr : a.eval p = .pointer (some ⟨g, j, none⟩)) (hx : a.eval x = u) (hh : W.heap[g]? = some (.cells cur e (0, 0))) (hj : j < cur.size) (hc : u.cells.toList = [u]) (h1 : u.oneCell' = true) (ht : (P.info? t).map (·.size) = some 1) (hcur : cur.setIfInBounds j u = cur')
    (h : ∀ W1, W1.heap[g]? = some (.cells cur' e (0, 0)) → W.grownBy W1 (some g) → wpList P ops Q rest a W1) : wpList P ops Q (o :: rest) a W := by
  refine wpList_plain hgd fun K hK => ?_
  have hrun : (Instr.storeAt t (.pointer (some ⟨g, j, none⟩)) u).run P W = .ok () (W.setCells g j [u]) := run_store_run t u [u] hh hc ht (by simp only [List.length_singleton]; omega) (fun q hq => by rw [List.mem_singleton.1 hq]; exact h1)
  unfold Oper.wp execOp
  simp only [ho, haddr, hx, Sem.run_bind, Sem.run_pure, Result.andThen_ok, hrun]
  show K (a.put o.dst undef) _
  rw [hN]
  exact hK _ _ (h _ (blk_put hh j u hcur) (setCells_grown W g j [u]))
end Go.Proofs.YtcpcllfmepfjgaaGreatDoor.core
