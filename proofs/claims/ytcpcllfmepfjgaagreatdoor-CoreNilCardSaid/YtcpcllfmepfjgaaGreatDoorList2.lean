/- Table.List: the segments, in a slice of the call's own. -/
import Derived.Test.YtcpcllfmepfjgaaGreatDoorList
import Derived.RangeFuncNested
namespace Go.Proofs.YtcpcllfmepfjgaaGreatDoor.core
open Go.RowKit Go.Shelf Go.Proofs.YtcpcllfmepfjgaaGreatDoorW.PrintWords Go.Proofs.YtcpcllfmepfjgaaGreatDoorW.PrintLast Go.Proofs.YtcpcllfmepfjgaaGreatDoorW.PrintMore Go.Proofs.YtcpcllfmepfjgaaGreatDoor.PCoreNil
set_option linter.unusedVariables false
set_option linter.unusedSimpArgs false
attribute [local go_sem] Oper.semAt_some

def segZ : Value := .agg #[.int .u64 0, .int .u64 0, .int .u8 0]

set_option maxRecDepth 100000 in
set_option maxHeartbeats 4000000 in
theorem list_in (n : Nat) (hn : 4 ≤ n) (L : List S52) (base B : Nat) (limit : Int) (w : World) (hl : L.length ≤ 1048576) (hT : TableAt w base B limit L) (hF : Full L) :
    CallsIn Fence.wide n Tryz.prog 15 #[.pointer (some ⟨B, 0, none⟩)] w fun e W' => ∃ v, e = .returned v ∧ W'.ownsRow w.heap.size 52 3 v L.length (segCells L) ∧ Below w.heap.size w W' := by
  have h1 : 1 ≤ n := by omega
  obtain ⟨i0, hi, hz0, hz1, hz2⟩ := info_parts infoSeg
  have C1 : ∀ W, Below w.heap.size w W → CallsIn Fence.wide (n - 1) Tryz.prog 39 #[.pointer (some ⟨B, 0, none⟩)] W _ := fun W hb => callsIn_wide.2 (all_full L base B limit W (by omega) (hT.below hb) hF)
  have HC1 := Aside0.mk C1
  clear C1
  obtain ⟨A, cT, hh, hc, hC⟩ := hT.reads
  obtain ⟨aT, rfl, hsegs⟩ := hC.2.2 hF.some
  have hcT : w.cell? ⟨B, 1, none⟩ = some (.slice (some aT) L.length cT) := cell_at hh 1
  have haT : aT.block < w.heap.size := by
    obtain ⟨cc, q1, q2, q3⟩ := hsegs 0 _ (List.getElem?_eq_getElem hF.some)
    have := World.block_lt_of_cell? _ _ (q3 0 _ (List.getElem?_eq_getElem (by rw [q1]; show 0 < k52.sz; decide)))
    have hb : ∀ k, (aT.add k).block = aT.block := fun k => by unfold Addr.add; split <;> rfl
    rwa [hb] at this
  clear hsegs hC hc hh
  refine callsIn_of_wp_marks Tryz.func15 rfl trivial ?_ rfl
  simp only [Tryz.ntmps15, List.size_toArray, List.length_cons, List.length_nil, Nat.reduceAdd, Nat.reduceSub, Array.replicate_succ, Array.replicate_zero, List.push_toArray, List.append_toArray, List.nil_append, List.cons_append]
  gi_wp2_with (refine ⟨trivial, ?_⟩; gi_at_call 39; refine (HC1.out _ (below_alloc (Below.refl _ _) _)).mono ?_; rintro e W0 ⟨b1, b2, b3, ad, c, rfl, hS, hx, hb0⟩)
  obtain ⟨hxc, x1, x2, x3⟩ := hx
  have hxc' := (pw_cell_below (below_alloc (Below.refl _ w) (.cells #[.slice none 0 0] 38)) hcT).symm.trans hxc
  simp only [Option.some.injEq, Value.slice.injEq] at hxc'
  obtain ⟨rfl, -, rfl⟩ := hxc'
  simp only [World.size_alloc] at x1 x2 x3
  have hbx : Boxed W0 w.heap.size 38 (.slice none 0 0) := (hb0.block _ (by simp)).trans (Boxed.new w _ _)
  have hB0 : Below w.heap.size w W0 := (below_alloc (Below.refl _ w) _).trans (hb0.mono (by simp))
  have hsz : w.heap.size < W0.heap.size := hbx.lt
  have hszl := hB0.size
  refine wpIn_rangeFunc_ownH rfl h1 (gf := 103) (lb := #[.pointer (some ⟨b1, 0, none⟩), .pointer (some ⟨b2, 0, none⟩), .pointer (some ⟨b3, 0, none⟩)]) rfl trivial (enters_of Tryz.func103 (by kernel_rfl) rfl)
    (within2_stops (n - 1) (by omega) w.heap.size b1 b2 b3 L (by omega) hF W0 aT cT hS (by omega) (by omega) (by omega)) (fun h k => h.trans k) (fun W l o o' hl hlo _ _ i hi _ => World.putObj_heap_other (by omega)) (Below.refl _ _) (fun _ => rfl)
    (fun pre W => ((∃ v, Boxed W w.heap.size 38 v ∧ W.ownsRow W0.heap.size 52 3 v pre.length (segCells pre) ∧ True) ∧ Below w.heap.size w W) ∧ W0.heap.size ≤ W.heap.size)
    (fun _ _ _ => False)
    (OwnFrom.and (OwnFrom.and (Own.from (holdsRow_own W0.heap.size w.heap.size 38 52 3 (fun pre => pre.length) (fun pre => segCells pre) (fun pre v => True)) _) (ownFrom_below (Nat.le_refl _) hszl)) (fun _ _ _ _ hs hg _ => Nat.le_trans hs hg.size))
    (fun _ _ _ _ _ hs _ _ => hs)
    ⟨⟨⟨_, hbx, World.ownsRow_nil _ _ _ _, trivial⟩, hB0⟩, Nat.le_refl _⟩
    (fun x a' W => ∃ Bx, W0.heap.size ≤ Bx ∧ W.heap[Bx]? = some (.cells #[.int .u64 x.f0, .int .u64 x.f1, .int .u8 x.f2] 52 (0, 0)) ∧ a' = { tmps := #[.pointer (some ⟨B, 0, none⟩), undef, .slice none 0 0, .pointer (some ⟨w.heap.size, 0, none⟩), .pointer (some ⟨Bx, 0, none⟩), .pointer (some ⟨B, 0, none⟩), .func (.func 103) #[] #[.pointer (some ⟨b1, 0, none⟩), .pointer (some ⟨b2, 0, none⟩), .pointer (some ⟨b3, 0, none⟩)], .agg #[.int .u64 x.f0, .int .u64 x.f1, .int .u8 x.f2], undef, undef, undef, undef, undef], defers := [] })
    (fun x a' _ X Y row hs hg hr => by
      obtain ⟨Bx, e1, e2, e3⟩ := hs
      refine ⟨Bx, e1, ?_, e3⟩
      refine (hg.block Bx (Array.getElem?_eq_some_iff.1 e2).1 (fun e' => ?_)).trans e2
      obtain ⟨_, o, ho, hc⟩ := hr Bx e'.symm
      rw [e2] at ho
      cases ho
      cases hc)
    ?assign ?body ?done ?stop
  case assign =>
    rintro l pre x W K ⟨⟨⟨v, hv, hrow, -⟩, hB⟩, hWs⟩ hK
    have hu := Tryz.underlying52
    simp only [encSeg]
    gi_wp2
    refine hK _ _ ((KeepsOthers.alloc _ _).from _) (fun i hi _ => Below.heap_alloc _ _ _ (by omega)) ⟨⟨⟨v, hv.alloc _, hrow.alloc _, trivial⟩, hB.alloc hB.size _⟩, by simp; omega⟩ ⟨W.heap.size, hWs, heap_new W _, rfl⟩
  case body =>
    rintro l pre x a' W hlW ⟨r, hr⟩ ⟨⟨⟨v, hv, hrow, -⟩, hB⟩, hWs⟩ ⟨Bx, hBx, hX, rfl⟩ hlt
    have hu := Tryz.underlying52
    have hcv := hv.cell
    have q0 : W.cell? ⟨Bx, 0, none⟩ = some (.int .u64 x.f0) := cell_at hX 0
    have q1 : W.cell? ⟨Bx, 1, none⟩ = some (.int .u64 x.f1) := cell_at hX 1
    have q2 : W.cell? ⟨Bx, 2, none⟩ = some (.int .u8 x.f2) := cell_at hX 2
    gi_wp2_with (gi_at_builtin; refine wpListIn_append_own _ rfl _ _ 38 rfl W0.heap.size 52 i0 _ 3 24 Tryz.underlying38 hi hz0 hz1 hz2 rfl (by decide) _ _ _ rfl (hrow.alloc _) ⟨W.heap.size, 0, none⟩ 1 1 (cells3 x) rfl rfl ?c1 ?c2 ?c3 ?c4 ?c5 ?_; (case c3 => unfold maxLen; omega); (case c4 => omega); (case c5 => simp; omega); (case c2 => simp [cells3, Value.oneCell']); (case c1 => intro j u hj; rw [add_plain]; exact (cell_at (heap_new W _) j).trans (by simpa [cells3] using hj)); intro v' w1 hown' hgrow hnil; obtain ⟨g', cap', rfl⟩ := ownsRow_succ hown'; obtain ⟨hv1, hv2, hr2, hk2, hb2⟩ := hv.appended (by decide) (own_weaken hrow hszl) hB.size (Nat.le_refl _) (own_weaken hown' hszl) hgrow; have hc1 := hv1.cell; have hf1 := hv1.frozen)
    refine ⟨hk2.from _, fun i hi' hne => ?_, ⟨⟨⟨_, hv2, ?_, trivial⟩, hB.trans hb2⟩, ?_⟩⟩
    · refine (Below.heap_setCell w1 ⟨w.heap.size, 0, none⟩ _ i hne).trans ((hgrow.block i (by simp; omega) (fun e' => ?_)).trans (Below.heap_alloc _ _ _ (by omega)))
      have := own_base hrow i e'.symm
      omega
    · rw [List.length_append, segCells_snoc]
      exact hown'.kept (grownBy_setCell' w1 w.heap.size _) (.inr (hv1.not_row (by decide) hown').symm)
    · have := hgrow.size
      simp at this
      simp [World.setCell]
      omega
  case done =>
    rintro D ys W hD rfl ⟨⟨⟨v, hv, hrow, -⟩, hB⟩, hWs⟩ hK
    have hcv := hv.cell
    gi_wp2
    refine ⟨by simp, .inl ⟨_, _, rfl, run_takeDeferred hK, ?_⟩⟩
    exact ⟨_, results_tmp rfl _ _ _, v, rfl, own_weaken (ownsRow_putObj hrow _ hK rfl) hszl, hB.trans (belowK_b (w := w) (Nat.le_refl _) W D _ _ (by omega) hK rfl rfl)⟩
  case stop =>
    rintro D c pre W _ _ h _
    exact h.elim

theorem list_any (L : List S52) (base B : Nat) (limit : Int) (w : World) (hl : L.length ≤ 1048576) (hT : TableAt w base B limit L) (hF : Full L) :
    Calls Tryz.prog 15 #[.pointer (some ⟨B, 0, none⟩)] w fun e W' => ∃ v, e = .returned v ∧ Kd.R k52 52 W' w.heap.size (fun _ => True) v L ∧ Below w.heap.size w W' :=
  (callsIn_wide.1 (list_in 4 (Nat.le_refl _) L base B limit w hl hT hF)).mono fun e W' ⟨v, he, hr, hb⟩ =>
    ⟨v, he, ⟨fun _ _ => trivial, segCells L, hr, segReps (fun x => k52_mkM _ _ _ x) L⟩, hb⟩
end Go.Proofs.YtcpcllfmepfjgaaGreatDoor.core
