/- AuditDigests, the second form: for every list of pairs whose reading is of bulk at most 1048576, in whatever memory: the program's digest is the reference's, and the list reads as it did. Condition: that bulk alone. -/
import Derived.Test.YtpekmdpbfjdjkaaRows
import Derived.Test.YtpekmdpbfjdjkaaOpens
import Derived.Test.YtpekmdpbfjdjkaaDigest
import Derived.Test.YtpekmdpbfjdjkaaPlainDigests
import Derived.WalkKit
import Derived.ProofKit
import Derived.OpenShut
import Derived.JoinedCond
import Derived.ChangeOld
import Derived.Below
namespace Go.Proofs.Ytpekmdpbfjdjkaa.auditDigests
open Go.ChangeShapes Go.WideShapes Go.ChangeAt Go.RowKit
open Go.Proofs.YtpekmdpbfjdjkaaW.PrintWords Go.Proofs.YtpekmdpbfjdjkaaW.PrintLast Go.Proofs.YtpekmdpbfjdjkaaW.PrintMore Go.Proofs.Ytpekmdpbfjdjkaa.PAuditDigests Go.Proofs.Ytpekmdpbfjdjkaa.opens
set_option linter.unusedVariables false

theorem own : ownKnob Try.prog.godebug = none := by kernel_rfl
theorem laidOut : laidOutB Try.prog = true := by kernel_rfl

def wt (x : S55) : Nat := x.f1.length + 1
theorem bytes_len (l : List S55) : (bytesAll l).length ≤ 10 * (l.map wt).sum := by
  induction l with
  | nil => simp [bytesAll]
  | cons x l ih =>
    have e : bytesAll (x :: l) = pairBytes x ++ bytesAll l := by simp [bytesAll]
    rw [e, List.length_append, List.map_cons, List.sum_cons]
    simp only [pairBytes, headOf, List.length_append, List.length_cons, List.length_nil, wt]
    omega
theorem len_le (l : List S55) : l.length ≤ (l.map wt).sum := by
  induction l with
  | nil => simp
  | cons x l ih => simp only [List.length_cons, List.map_cons, List.sum_cons, wt]; omega
theorem val_le (l : List S55) : ∀ x ∈ l, x.f1.length ≤ (l.map wt).sum := by
  induction l with
  | nil => intro x hx; simp at hx
  | cons y l ih =>
    intro x hx
    simp only [List.map_cons, List.sum_cons, wt]
    rcases List.mem_cons.1 hx with rfl | hx
    · omega
    · have h2 := ih x hx
      have e : (List.map wt l).sum = (List.map (fun x => x.f1.length + 1) l).sum := rfl
      omega

set_option maxHeartbeats 1000000 in
set_option maxRecDepth 100000 in
theorem walk (A0 : Option Addr) (c0 : Nat) (l0 : List S55) (w : World) (hr0 : Kd.C k55 w A0 l0.length l0) (hc0 : l0.length ≤ c0) (hb : (l0.map wt).sum ≤ 1048576) :
    Calls Try.prog 3 #[.slice A0 l0.length c0] w fun e w' => e = .returned (.bool true) ∧ Below w.heap.size w w' := by
  have hlen := len_le l0
  have hval := val_le l0
  have hbytes := bytes_len l0
  have p1 := pairs_f l0 1048577 (by omega) (fun x hx => by have := hval x hx; omega) (by omega) 4194304 (by omega)
  have p2 := same_f l0 (by omega) 4194304 (by omega)
  have p3 := ref_f l0 (by omega) (by omega) 33554432 (by omega)
  have C1 := Aside0.mk (fun w h => shardref10_Pairs.calls 4194304 A0 c0 l0 l0 w h hc0 p1)
  have C2 := Aside0.mk (fun A c w h hc => digest_calls A c l0 w h hc (by omega) (fun x hx => by have := hval x hx; omega))
  have C3 := Aside0.mk (fun A c w h hc h0 => shardref3_SamePairs.calls 4194304 A c l0 A0 c0 l0 true w h hc h0 hc0 p2)
  have C4 := Aside0.mk (fun w h => refDigest.calls 33554432 A0 c0 l0 (digestL l0) w h hc0 p3)
  have HR0 := Aside0.mk hr0
  clear hr0 hc0 hb hlen hval hbytes p1 p2 p3
  go_enter Try.func3, Try.ntmps3
  go_wp2_with fail
  refine (C1.out _ HR0.out).mono ?_
  rintro e w1 ⟨v, rfl, hS, hb1⟩
  obtain ⟨A1, c1, rfl, hl1, hC1⟩ := Kd.S_reads hS
  have HB1 := Aside0.mk hb1
  have HC1 := Aside0.mk hC1
  have HL1 := Aside0.mk hl1
  clear hS hb1 hC1 hl1
  go_wp2_with fail
  refine (C2.out _ _ _ HC1.out HL1.out).mono ?_
  rintro e w2 ⟨rfl, hb2⟩
  have HB2 := Aside0.mk hb2
  clear hb2
  go_wp2_with fail
  refine (C3.out _ _ _ (Kd.C_below HC1.out HB2.out) HL1.out (Kd.C_below (Kd.C_below HR0.out HB1.out) HB2.out)).mono ?_
  rintro e w3 ⟨rfl, ⟨n3, rfl⟩⟩
  go_wp2_with fail
  refine (C4.out _ (Kd.C_drewN (Kd.C_below (Kd.C_below HR0.out HB1.out) HB2.out) _)).mono ?_
  rintro e w4 ⟨rfl, hb4⟩
  have HB4 := Aside0.mk hb4
  clear hb4
  go_wp2_with fail
  go_ret
  exact ⟨by simp, HB1.out.trans ((HB2.out.mono HB1.out.size).trans ((pw_below_drewN (Below.refl _ _) n3).trans (HB4.out.mono (by have := HB1.out.size; have := HB2.out.size; simp; omega))))⟩

theorem ones (l : List Int) : (l.map fun _ => 1).sum = l.length := by
  induction l with
  | nil => rfl
  | cons x l ih => simp only [List.map_cons, List.sum_cons, List.length_cons, ih]; omega

/-- What a pair reads as. -/
theorem opens_pair : Opens Try.prog 55 k55 wt (fun _ => True) :=
  opens_weak (opens_iso (f := fun x : S55 => (x.f0, x.f1)) (fun a => ⟨a.1, a.2⟩) (fun _ => rfl) (opens_struct Try.underlying55 (by kernel_rfl)
    (fs_cons rfl (by kernel_rfl) (opens_int Try.underlying24) (fs_one rfl (by kernel_rfl) (opens_slice Try.underlying52 (by kernel_rfl) (opens_int Try.underlying5))))))
    (fun x => by simp only [ones, wt]; omega) (fun _ _ => trivial)

/-- What a list of pairs reads as. -/
theorem opens_pairs : Opens Try.prog 22 (Kd.slice 55 k55) (fun l => (l.map wt).sum) (fun _ => True) :=
  opens_weak (opens_slice Try.underlying22 (by kernel_rfl) opens_pair) (fun l => by omega) (fun _ _ => trivial)

set_option maxRecDepth 100000 in
theorem contract (H : Type) (enc : TypeId × Value → H) (W : World) (base : Nat) (args : Array Value) (ds gs : List (DataW H)) (before : List MemPlace)
    (hval0 : ∀ (j : Nat) t v, Try.f3.params[j]? = some t → args[j]? = some v → Value.okWide Try.prog W .any base t v)
    (hW : DataW.Whole enc Try.prog Try.f3.params.toList Rows.auditDigestsSpec.vars false W args.toList ds gs before) (hk : Rows.uptoSmall H (ds ++ gs) = true) :
    Calls Try.prog 3 args W fun e W' => ∃ v, e = .returned v ∧ Rows.auditDigestsSpec.post enc Try.prog Try.f3 false true false false W args v W' := by
  have hval : ∀ (j : Nat) t v, Try.f3.params[j]? = some t → args[j]? = some v → Value.okWide Try.prog W .any base t v := hval0
  have hW' := hW
  obtain ⟨p, q, hA0, hV, rfl, hfz, hnd⟩ := hW
  have hA : DataW.TrodAll enc Try.prog W 0 (fun _ => true) true Try.f3.params.toList args.toList ds p := hA0
  rw [Try.params3] at hA hval
  obtain ⟨v0, vs0, d0, ds0, p0, q0, hargs, rfl, rfl, h0, r0⟩ := trodAll_cons hA
  obtain ⟨rfl, rfl, rfl⟩ := trodAll_nil r0
  obtain rfl : args = #[v0] := by cases args; simp_all
  obtain ⟨rfl, rfl⟩ := trodVars_none hV
  obtain ⟨a0, len0, cap0, rfl⟩ := okWide_slice Try.underlying22 (hval 0 22 v0 rfl rfl)
  have k0 := h0
  have lt0 : ∀ x ∈ p0, x.block < W.heap.size := by obtain ⟨m, hm⟩ := k0; exact DataW.trod_lt m _ _ _ hm
  obtain ⟨fuel, hf⟩ := h0
  obtain ⟨l0, ⟨A, c, he, hl, hC⟩, hw, _⟩ := opens_pairs H enc W _ _ _ fuel _ _ hf
  have hbk := bound hk
  simp only [List.append_nil, Rows.uptoBulkAll] at hbk
  have he' : (Value.slice a0 len0 cap0) = .slice A l0.length c := by simpa [Value.cells] using he
  injection he' with e1 e2 e3
  subst e1; subst e2; subst e3
  clear hA0 hval0
  simp only [List.append_nil] at hW'
  refine (walk a0 cap0 l0 W hC hl (by have h3 : (List.map wt l0).sum ≤ Rows.uptoBulk d0 := hw; omega)).mono fun e W' ⟨he, bel⟩ => ?_
  subst he
  exact ⟨_, rfl, _, _, _, [], _, [], hW', trodAll_mk1 (shut_bool Try.underlying4 _), (trodAll_cons_mk (Below.trod laidOut (by kernel_rfl) (of_decide_eq_true (by kernel_rfl)) k0 bel lt0) trodAll_mk0), rfl, bel.frame _, fun h => by cases h⟩

set_option maxRecDepth 100000 in
theorem lifted (os : Os) (started : os.Started) (H : Type) (enc : TypeId × Value → H) (F : Stop.Interp) :
    ReturnsInHanded {} Try.checked os 3 .any ((Rows.OpenSpec.upto Rows.auditDigestsSpec).pre6 enc Try.prog Try.f3 Rows.auditDigestsUptoRow.domain false) (((Rows.OpenSpec.upto Rows.auditDigestsSpec).at F).post enc Try.prog Try.f3 false true false false) := by
  refine returnsInHanded_of_cond (C := Try.checked) (s := Rows.OpenSpec.upto Rows.auditDigestsSpec) (k := Rows.uptoSmall) rfl own started (by kernel_rfl) Try.func3
    (OpenSpec.witness (enc := enc) (C := Try.checked) (s := Rows.OpenSpec.upto Rows.auditDigestsSpec) (k := Rows.uptoSmall) rfl false ⟨#[], #[.slice none 0 0], []⟩ 8 (by kernel_rfl) (by kernel_rfl) (by kernel_rfl)
      (x := ([.nil], [], [])) (by kernel_rfl) rfl (by kernel_rfl)) ?_
  intro W base args ds gs before hval hW _ hk _
  exact contract H enc W base args ds gs before hval hW hk

theorem over : Rows.auditDigestsUptoRow.holds Try.pinned (Rows.OpenSpec.upto Rows.auditDigestsSpec) :=
  OpenClaim.holds_of_cond 3 Try.f3 rfl rfl rfl rfl rfl rfl rfl ⟨rfl, rfl, rfl, rfl, rfl⟩ rfl rfl rfl rfl rfl (by kernel_rfl) Try.func3 (by kernel_rfl)
    (of_decide_eq_true (by kernel_rfl)) (by unfold Func.isWrapper; first | (rw [if_pos (by decide +kernel)]; kernel_rfl) | (rw [if_neg (by decide +kernel)]; exact ⟨rfl, rfl⟩))
    (fun os started H enc _ F => lifted os started H enc F)

theorem proved : Rows.AuditDigestsUptoSaid := over
#print axioms proved
end Go.Proofs.Ytpekmdpbfjdjkaa.auditDigests
namespace Go.Proofs.Ytpekmdpbfjdjkaa
/-- The row, under a short name, for the claim. -/
theorem auditDigests_holds : Rows.AuditDigestsUptoSaid := auditDigests.proved
end Go.Proofs.Ytpekmdpbfjdjkaa
