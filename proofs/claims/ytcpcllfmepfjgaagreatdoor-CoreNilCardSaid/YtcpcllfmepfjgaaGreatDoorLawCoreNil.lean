/- CoreNil, the card: for every sender and every message, in whatever memory: a nil core answers nothing, an error, an empty state; and a host of the smallest cluster owns all keys. No condition. -/
import Derived.Test.YtcpcllfmepfjgaaGreatDoorCards
import Derived.Test.YtcpcllfmepfjgaaGreatDoorTie
import Derived.Test.YtcpcllfmepfjgaaGreatDoorOpensW
import Derived.Test.YtcpcllfmepfjgaaGreatDoorWalkCoreNil
import Derived.WalkKit
import Derived.ProofKit
import Derived.OpenShut
import Derived.ChangeOld
import Derived.Below
import Derived.Deep.DeepHandedRow
import Derived.Lib.LaidTab
namespace Go.Proofs.YtcpcllfmepfjgaaGreatDoor.coreNil
open Go.ChangeShapes Go.WideShapes Go.ChangeAt Go.RowKit
open Go.Proofs.YtcpcllfmepfjgaaGreatDoorW.PrintWords Go.Proofs.YtcpcllfmepfjgaaGreatDoorW.PrintLast Go.Proofs.YtcpcllfmepfjgaaGreatDoorW.PrintMore Go.Proofs.YtcpcllfmepfjgaaGreatDoor.opensw Go.Proofs.YtcpcllfmepfjgaaGreatDoor.PCoreNil
set_option linter.unusedVariables false

theorem own : ownKnob Tryz.prog.godebug = none := by kernel_rfl
theorem laidOut : laidOutB Tryz.prog = true := by kernel_rfl

theorem bytesB : Tryz.prog.bytesOf 5 = 1 := by kernel_rfl
theorem bytesP : Tryz.prog.bytesOf 101 = 32 := by kernel_rfl
theorem bytesS : Tryz.prog.bytesOf 76 = 24 := by kernel_rfl
theorem opens_bytes : OpensW Tryz.prog 25 (Kd.slice 5 (Kd.int .u8)) (fun l => l.length < 140737488355312 ∧ True) :=
  opens_weak (opens_slice Tryz.underlying25 (by kernel_rfl) (opens_int Tryz.underlying5)) (fun l h => ⟨by have := h.1; rw [bytesB] at this; simp only [reachBytes] at this; omega, trivial⟩)
theorem opens_pair : OpensW Tryz.prog 101 k101 (fun x => x.f1.length < 140737488355312) :=
  opens_weak (opens_iso (f := fun x : S101 => (x.f0, x.f1)) (fun a => ⟨a.1, a.2⟩) (fun _ => rfl) (opens_struct Tryz.underlying101 (by kernel_rfl)
    (fs_cons rfl (by kernel_rfl) (opens_int Tryz.underlying24) (fs_one rfl (by kernel_rfl) opens_bytes)))) (fun x h => h.2.1)
theorem opens_pairs : OpensW Tryz.prog 28 (Kd.slice 101 k101) (fun l => l.length < 4398046511104 ∧ ∀ x ∈ l, x.f1.length < 140737488355312) :=
  opens_weak (opens_slice Tryz.underlying28 (by kernel_rfl) opens_pair) (fun l h => ⟨by have := h.1; rw [bytesP] at this; simp only [reachBytes] at this; omega, h.2⟩)
theorem opens_session : OpensW Tryz.prog 76 k76 (fun _ => True) :=
  opens_weak (opens_iso (f := fun x : S76 => (x.f0, x.f1, x.f2)) (fun a => ⟨a.1, a.2.1, a.2.2⟩) (fun _ => rfl) (opens_struct Tryz.underlying76 (by kernel_rfl)
    (fs_cons rfl (by kernel_rfl) (opens_int Tryz.underlying22) (fs_cons rfl (by kernel_rfl) (opens_int Tryz.underlying24) (fs_one rfl (by kernel_rfl) (opens_int Tryz.underlying26)))))) (fun _ _ => trivial)
theorem opens_sessions : OpensW Tryz.prog 29 (Kd.slice 76 k76) (fun l => l.length < 5864062014805 ∧ True) :=
  opens_weak (opens_slice Tryz.underlying29 (by kernel_rfl) opens_session) (fun l h => ⟨by have := h.1; rw [bytesS] at this; simp only [reachBytes] at this; omega, trivial⟩)
theorem cells_agg {v : Value} {l : List Value} (h : v.cells.toList = l) (hl : 2 ≤ l.length) : v = .agg l.toArray := by
  subst h
  cases v
  all_goals first | (exfalso; simp [Value.cells] at hl; done) | simp [Value.cells]

set_option maxRecDepth 100000 in
theorem contract (H : Type) (enc : TypeId × Value → H) (W : World) (base : Nat) (args : Array Value) (ds gs : List (DataW H)) (before : List MemPlace)
    (hval0 : ∀ (j : Nat) t v, Tryz.f3.params[j]? = some t → args[j]? = some v → Value.okWide Tryz.prog W .any base t v)
    (hW : DataW.Whole enc Tryz.prog Tryz.f3.params.toList Rows.coreNilSpec.vars false W args.toList ds gs before)
    (hsz0 : (DataW.weightsEach Tryz.prog (Tryz.f3.params.toList ++ Rows.coreNilSpec.plain.varTypes Tryz.prog) (ds ++ gs)).all (· ≤ reachBytes) = true) :
    Calls Tryz.prog 3 args W fun e W' => ∃ v, e = .returned v ∧ Rows.coreNilSpec.post enc Tryz.prog Tryz.f3 false true false false W args v W' := by
  have hval : ∀ (j : Nat) t v, Tryz.f3.params[j]? = some t → args[j]? = some v → Value.okWide Tryz.prog W .any base t v := hval0
  have hsz := fine_of_all hsz0
  have hW' := hW
  obtain ⟨p, q, hA0, hV, rfl, hfz, hnd⟩ := hW
  have hA : DataW.TrodAll enc Tryz.prog W 0 (fun _ => true) true Tryz.f3.params.toList args.toList ds p := hA0
  rw [Tryz.params3] at hA hval hsz
  obtain ⟨v0, vs0, d0, ds0, p0, q0, hargs, rfl, rfl, h0, r0⟩ := trodAll_cons hA
  obtain ⟨v1, vs1, d1, ds1, p1, q1, rfl, rfl, rfl, h1, r1⟩ := trodAll_cons r0
  obtain ⟨rfl, rfl, rfl⟩ := trodAll_nil r1
  obtain rfl : args = #[v0, v1] := by cases args; simp_all
  obtain ⟨rfl, rfl⟩ := trodVars_none hV
  have k1 := h1
  have lt1 : ∀ x ∈ p1, x.block < W.heap.size := by obtain ⟨m, hm⟩ := k1; exact DataW.trod_lt m _ _ _ hm
  obtain ⟨src, rfl, rfl, rfl, w0⟩ := open_int Tryz.underlying22 (hval 0 22 v0 rfl rfl) h0
  obtain ⟨fuel, hf⟩ := h1
  obtain ⟨⟨a0, a1, a2, a3, l4, l5, a6, a7, a8, a9, a10, a11, a12, a13, l14, l15, l16⟩, ⟨_, _, e0, rfl, ⟨_, _, rfl, rfl, ⟨_, _, rfl, rfl, ⟨_, _, rfl, rfl, ⟨_, _, rfl, ⟨A4, c4, rfl, hc4, hr4⟩, ⟨_, _, rfl, ⟨A5, c5, rfl, hc5, hr5⟩, ⟨_, _, rfl, rfl, ⟨_, _, rfl, rfl, ⟨_, _, rfl, rfl, ⟨_, _, rfl, rfl, ⟨_, _, rfl, rfl, ⟨_, _, rfl, rfl, ⟨_, _, rfl, rfl, ⟨_, _, rfl, rfl, ⟨_, _, rfl, ⟨A14, c14, rfl, hc14, hr14⟩, ⟨_, _, rfl, ⟨A15, c15, rfl, hc15, hr15⟩, ⟨A16, c16, rfl, hc16, hr16⟩⟩⟩⟩⟩⟩⟩⟩⟩⟩⟩⟩⟩⟩⟩⟩⟩, hs⟩ := (show OpensW Tryz.prog 31 (Kd.pair (Kd.int .u8) (Kd.pair (Kd.int .u64) (Kd.pair (Kd.int .u64) (Kd.pair (Kd.int .u64) (Kd.pair (Kd.slice 5 (Kd.int .u8)) (Kd.pair (Kd.slice 5 (Kd.int .u8)) (Kd.pair (Kd.bool) (Kd.pair (Kd.int .u8) (Kd.pair (Kd.int .u8) (Kd.pair (Kd.int .u8) (Kd.pair (Kd.int .u32) (Kd.pair (Kd.int .u32) (Kd.pair (Kd.int .u64) (Kd.pair (Kd.int .u8) (Kd.pair (Kd.slice 101 k101) (Kd.pair (Kd.slice 76 k76) (Kd.slice 5 (Kd.int .u8)))))))))))))))))) _ from opens_struct Tryz.underlying31 (by kernel_rfl) (fs_cons rfl (by kernel_rfl) (opens_int Tryz.underlying23) (fs_cons rfl (by kernel_rfl) (opens_int Tryz.underlying24) (fs_cons rfl (by kernel_rfl) (opens_int Tryz.underlying24) (fs_cons rfl (by kernel_rfl) (opens_int Tryz.underlying24) (fs_cons rfl (by kernel_rfl) (opens_bytes) (fs_cons rfl (by kernel_rfl) (opens_bytes) (fs_cons rfl (by kernel_rfl) (opens_bool Tryz.underlying4) (fs_cons rfl (by kernel_rfl) (opens_int Tryz.underlying23) (fs_cons rfl (by kernel_rfl) (opens_int Tryz.underlying26) (fs_cons rfl (by kernel_rfl) (opens_int Tryz.underlying22) (fs_cons rfl (by kernel_rfl) (opens_int Tryz.underlying27) (fs_cons rfl (by kernel_rfl) (opens_int Tryz.underlying27) (fs_cons rfl (by kernel_rfl) (opens_int Tryz.underlying24) (fs_cons rfl (by kernel_rfl) (opens_int Tryz.underlying5) (fs_cons rfl (by kernel_rfl) (opens_pairs) (fs_cons rfl (by kernel_rfl) (opens_sessions) (fs_one rfl (by kernel_rfl) (opens_bytes))))))))))))))))))) H enc W _ _ _ fuel _ _ hf
  have hs' := hs (by
    simp only [List.cons_append, List.nil_append, DataW.weightsEach] at hsz
    exact (Fine.right hsz).left)
  obtain ⟨-, -, -, -, ⟨b4, d4⟩, ⟨b5, d5⟩, -, -, -, -, -, -, -, -, ⟨b14, d14⟩, ⟨b15, d15⟩, ⟨b16, d16⟩⟩ := hs'
  obtain rfl := cells_agg e0 (by simp)
  clear hA0 hval0
  refine (core.law src a0 a1 a2 a3 A4 c4 l4 A5 c5 l5 a6 a7 a8 a9 a10 a11 a12 a13 A14 c14 l14 A15 c15 l15 A16 c16 l16 W hr4 hc4 hr5 hc5 hr14 hc14 hr15 hc15 hr16 hc16 b4 b5 b16 b14 d14 b15).mono fun e W' ⟨he, bel⟩ => ?_
  subst he
  exact ⟨_, rfl, _, _, _, [], _, [], hW', trodAll_mk1 (shut_bool Tryz.underlying4 _), (trodAll_cons_mk (shut_int Tryz.underlying22 w0) (trodAll_cons_mk (Below.trod laidOut (by kernel_rfl) (of_decide_eq_true (by kernel_rfl)) k1 bel lt1) trodAll_mk0)), rfl, bel.frame _, fun h => by cases h⟩

/-- A world for the witness: the settled one, the table (block 0) holding what its initialiser lays. -/
noncomputable def laidWorld (os : Os) : World :=
  { World.holding Tryz.prog os ⟨#[], #[], []⟩ with heap := (World.holding Tryz.prog os ⟨#[], #[], []⟩).heap.modify 0 fun
      | .cells _ t frozen => .cells #[.bool false, .bool false, .bool true, .bool true, .bool true, .bool false] t frozen
      | o => o }
def wargs : Array Value := #[.int .u8 0, .agg #[.int .u8 0, .int .u64 0, .int .u64 0, .int .u64 0, .slice none 0 0, .slice none 0 0, .bool false, .int .u8 0, .int .u8 0, .int .u8 0, .int .u32 0, .int .u32 0, .int .u64 0, .int .u8 0, .slice none 0 0, .slice none 0 0, .slice none 0 0]]
theorem laid_met (os : Os) : laidMet Tryz.prog Rows.coreNilRow.laid ((laidWorld os).forCall (fun _ _ => 0) ⟨#[], wargs, []⟩).memory :=
  laidMet_of_run' 8 (by kernel_rfl) (by kernel_rfl)
theorem reads (os : Os) {H : Type} (enc : TypeId × Value → H) : ∃ places, DataW.whole enc Tryz.prog ((laidWorld os).forCall (fun _ _ => 0) ⟨#[], wargs, []⟩).memory Tryz.f3.params.toList Rows.coreNilSpec.vars false wargs.toList 8 = some ([.lit (.int .u8 0), .agg [.lit (.int .u8 0), .lit (.int .u64 0), .lit (.int .u64 0), .lit (.int .u64 0), .nil, .nil, .lit (.bool false), .lit (.int .u8 0), .lit (.int .u8 0), .lit (.int .u8 0), .lit (.int .u32 0), .lit (.int .u32 0), .lit (.int .u64 0), .lit (.int .u8 0), .nil, .nil, .nil]], [], places) :=
  ⟨[], by kernel_rfl⟩

set_option maxRecDepth 100000 in
theorem lifted (os : Os) (started : os.Started) (H : Type) (enc : TypeId × Value → H) (F : Stop.Interp) :
    ReturnsInHanded {} Tryz.checked os 3 .any ((OpenSpec.ofChange Rows.coreNilSpec).preRow enc Tryz.prog Tryz.f3 Rows.coreNilRow.domain false Rows.coreNilRow.laid) (((OpenSpec.ofChange Rows.coreNilSpec).at F).post enc Tryz.prog Tryz.f3 false true false false) := by
  obtain ⟨places, hx⟩ := reads os enc
  refine returnsInHanded_of_row (C := Tryz.checked) (s := OpenSpec.ofChange Rows.coreNilSpec) own started (by kernel_rfl) Tryz.func3
    (witness_row_at (enc := enc) (C := Tryz.checked) false (laidWorld os) wargs rfl (by kernel_rfl) (by kernel_rfl) (by kernel_rfl)
      (OpenSpec.preRow_of_cond 8 hx (by kernel_rfl) (fun k hk => by cases hk) (by kernel_rfl) (laid_met os))) ?_
  intro W base args ds gs before hval hW _ _ hsz _ _ _
  exact contract H enc W base args ds gs before hval hW hsz

theorem said : Rows.CoreNilSaid :=
  OpenClaim.holds_of_cond 3 Tryz.f3 rfl rfl rfl rfl rfl rfl rfl ⟨rfl, rfl, rfl, rfl, rfl⟩ rfl rfl rfl rfl rfl (by kernel_rfl) Tryz.func3 (by kernel_rfl)
    (of_decide_eq_true (by kernel_rfl)) (by unfold Func.isWrapper; first | (rw [if_pos (by decide +kernel)]; kernel_rfl) | (rw [if_neg (by decide +kernel)]; exact ⟨rfl, rfl⟩))
    (fun os started H enc _ F => by rw [OpenClaim.pre_eq_preRow]; exact lifted os started H enc F)

/-- No parameter wants a stand-in; the program's own looks are off: what the card asks. -/
theorem plain (f : FuncId) (fn : Func) (hf : Tryz.pinned.checked.prog.funcNamed "shard/shardlaw10.CoreNil" = some f) (hfn : Tryz.pinned.checked.prog.funcs[f]? = some fn) :
    true = Tryz.pinned.checked.prog.looks [] ∧ ∀ (j : Nat) t, fn.params[j]? = some t → Tryz.pinned.checked.prog.wantsStandIn t = false := by
  obtain rfl : f = 3 := Option.some.inj ((show Tryz.prog.funcNamed "shard/shardlaw10.CoreNil" = some 3 by kernel_rfl).symm.trans hf) |>.symm
  obtain rfl : fn = Tryz.f3 := (Option.some.inj (Tryz.func3.symm.trans hfn)).symm
  refine ⟨by kernel_rfl, fun j t ht => ?_⟩
  rw [Tryz.params3] at ht
  have h2 : t = 22 ∨ t = 31 := by simpa using Array.mem_of_getElem? ht
  rcases h2 with rfl | rfl
  · exact (show Tryz.prog.wantsStandIn 22 = false by kernel_rfl)
  · exact (show Tryz.prog.wantsStandIn 31 = false by kernel_rfl)

theorem proved : Rows.CoreNilCardSaid :=
  Claim7.holds_tied_plain_at .later [] _ _ _ _ said (fun _ h => by cases h) (by kernel_rfl) (fun _ h => by cases h) coreNil_row_tie rfl ⟨rfl, rfl⟩ (by kernel_rfl) rfl plain (by kernel_rfl)
#print axioms proved
end Go.Proofs.YtcpcllfmepfjgaaGreatDoor.coreNil
namespace Go.Proofs.YtcpcllfmepfjgaaGreatDoor
/-- The card, under a short name, for the claim. -/
theorem coreNil_holds : Rows.CoreNilCardSaid := coreNil.proved
end Go.Proofs.YtcpcllfmepfjgaaGreatDoor
