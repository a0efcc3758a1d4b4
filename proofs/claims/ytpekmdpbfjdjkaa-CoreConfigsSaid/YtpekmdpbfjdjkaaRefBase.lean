/- The document's New: what its two halves stand on. -/
import Derived.Test.YtpekmdpbfjdjkaaStore
import Derived.Test.YtpekmdpbfjdjkaaQCoreConfigsx8
import Derived.Test.YtpekmdpbfjdjkaaCfg
namespace Go.Proofs.Ytpekmdpbfjdjkaa.core
open Go.RowKit Go.Proofs.YtpekmdpbfjdjkaaW.PrintWords Go.Proofs.YtpekmdpbfjdjkaaW.PrintLast Go.Proofs.YtpekmdpbfjdjkaaW.PrintMore Go.Proofs.Ytpekmdpbfjdjkaa.PCoreConfigs
set_option linter.unusedVariables false
set_option linter.unusedSimpArgs false

theorem chkRef (h cl pa bo q wi gr ke mt ne pt tr : Int) (w : World) : Calls Try.prog 10 #[.agg #[.int .i64 h, .int .i64 cl, .int .i64 pa, .int .i64 bo, .int .i64 q, .int .i64 wi, .int .i64 gr, .int .i64 ke, .int .i64 mt, .int .i64 ne, .int .i64 pt, .int .i64 tr]] w fun e w' =>
    e = .returned (.int .i64 (if Good h cl pa bo q wi gr ke mt ne pt tr then 0 else 100)) ∧ Below w.heap.size w w' :=
  shardref10_CheckConfig.calls 2 h cl pa bo q wi gr ke mt ne pt tr _ w (chk_ref 0 ..)
def hostZ : List Value := [.int .i64 0, .int .i64 0, .int .i64 0, .int .i64 0, .int .i64 0, .int .i64 0, .int .i64 0, .int .i64 0, .int .i64 0, .int .i64 0, .int .i64 0, .int .i64 0, .int .u8 0, .slice none 0 0, .slice none 0 0, .slice none 0 0, .int .i64 0, .int .i64 0, .slice none 0 0]
def hostV (h cl pa bo q wi gr ke mt ne pt tr self : Int) (vt vp : Value) : List Value := [.int .i64 h, .int .i64 cl, .int .i64 pa, .int .i64 bo, .int .i64 q, .int .i64 wi, .int .i64 gr, .int .i64 ke, .int .i64 mt, .int .i64 ne, .int .i64 pt, .int .i64 tr, .int .u8 self, vt, .slice none 0 0, .slice none 0 0, .int .i64 pa, .int .i64 bo, vp]
theorem loadVar_block {w : World} {b : Nat} {cs : List Value} (hh : w.heap[b]? = some (.cells cs.toArray 46 (0, 0))) (hu : (Try.prog.info? 46).map (·.size) = some cs.length) :
    (loadVar 46 ⟨b, 0, none⟩).run Try.prog w = .ok (.agg cs.toArray) w := by
  have hu1 := Try.underlying46
  obtain ⟨i, hi, hsz⟩ := Option.map_eq_some_iff.1 hu
  have h := run_loadCells_list (P := Try.prog) w ⟨b, 0, none⟩ cs (fun j v hj => by rw [show (⟨b, 0, none⟩ : Addr).add j = ⟨b, j, none⟩ by unfold Addr.add; split <;> simp_all]; rw [cell_at hh j]; simpa using hj)
  simp [loadVar, isAgg, sizeOf, typeInfo, hi, hsz, hu1, h]
theorem resHost {w : World} {b : Nat} {tm : Array Value} {r : Value} {cs : List Value} (hh : w.heap[b]? = some (.cells cs.toArray 46 (0, 0))) (hl : cs.length = 19) (h4 : tm.getD 4 undef = .pointer (some ⟨b, 0, none⟩)) (h5 : tm.getD 5 undef = r) :
    (results Try.f13 tm).run Try.prog w = .ok (.tuple #[.agg cs.toArray, r]) w := by
  have h := loadVar_block hh (by rw [hl]; kernel_rfl)
  have hr : Try.f13.results = #[.cell 4 46, .tmp 5] := rfl
  rw [Array.getD_eq_getD_getElem?] at h4 h5
  unfold results
  rw [hr]
  simp [h4, h5, asAddr, h]
end Go.Proofs.Ytpekmdpbfjdjkaa.core
