/- What Collect and Scan tell of a map without a key. -/
import Derived.Test.YtcpcllfmepfjgaaGreatDoorList2
import Derived.Test.YtcpcllfmepfjgaaGreatDoorCoreNew2
namespace Go.Proofs.YtcpcllfmepfjgaaGreatDoor.core
open Go.RowKit Go.Shelf Go.Proofs.YtcpcllfmepfjgaaGreatDoorW.PrintWords Go.Proofs.YtcpcllfmepfjgaaGreatDoorW.PrintLast Go.Proofs.YtcpcllfmepfjgaaGreatDoorW.PrintMore Go.Proofs.YtcpcllfmepfjgaaGreatDoor.PCoreNil
set_option linter.unusedVariables false
set_option linter.unusedSimpArgs false
attribute [local go_sem] Oper.semAt_some

set_option maxHeartbeats 1000000 in
set_option maxRecDepth 100000 in
theorem walkA_nil (f : Value) (w : World) : Calls Tryz.prog 74 #[.pointer none, f] w fun e w' => e = .returned (.bool true) ∧ ∃ m, w' = w.drewN m := by
  go_enter Tryz.func74, Tryz.ntmps74
  go_wp2_with fail
  go_quiet (fail)
  go_wp2_with fail
  go_ret
  exact ⟨rfl, _, rfl⟩

theorem allA_any (m : Option Addr) (w : World) : Calls Tryz.prog 45 #[.pointer m] w fun e w' =>
    e = .returned (.func (.func 73) #[] #[.pointer (some ⟨w.heap.size, 0, none⟩)]) ∧ w' = w.alloc (.cells #[.pointer m] 56) := by
  go_enter Tryz.func45, Tryz.ntmps45
  go_wp2
  go_ret
  exact ⟨rfl, rfl⟩

theorem cntB_nil (w : World) : Calls Tryz.prog 72 #[.pointer none] w fun e w' => e = .returned (.int .i64 0) ∧ w' = w := by
  go_enter Tryz.func72, Tryz.ntmps72
  go_wp2
  go_ret
  exact ⟨rfl, rfl⟩

theorem lenB_new (M : Nat) (w : World) (h : MapNew w M 77 195) : Calls Tryz.prog 44 #[.pointer (some ⟨M, 0, none⟩)] w fun e w' => e = .returned (.int .i64 0) ∧ w' = w := by
  have hr : w.cell? ⟨M, 1, none⟩ = some (.pointer none) := cell_at h 1
  clear h
  go_enter Tryz.func44, Tryz.ntmps44
  go_wp2
  go_ret
  exact ⟨rfl, rfl⟩

theorem shelfLen_new (B : Nat) (w : World) (h : ShelfNew w B) : Calls Tryz.prog 18 #[.pointer (some ⟨B, 0, none⟩)] w fun e w' => e = .returned (.int .i64 0) ∧ w' = w := by
  obtain ⟨M, h1, h2⟩ := h
  have hr : w.cell? ⟨B, 0, none⟩ = some (.pointer (some ⟨M, 0, none⟩)) := cell_at h1 0
  have C := Aside0.mk (lenB_new M w h2)
  clear h1 h2
  go_enter Tryz.func18, Tryz.ntmps18
  go_wp2_with fail
  refine C.out.mono ?_
  rintro e w' ⟨rfl, rfl⟩
  go_wp2_with fail
  go_ret
  exact ⟨rfl, rfl⟩

set_option maxHeartbeats 1000000 in
set_option maxRecDepth 100000 in
/-- All's closure at a map without a key calls nobody. -/
theorem allA1_nil (M b : Nat) (f : Value) (w : World) (hM : MapNew w M 51 137) (hb : w.cell? ⟨b, 0, none⟩ = some (.pointer (some ⟨M, 0, none⟩))) :
    Calls Tryz.prog 73 #[f, .pointer (some ⟨b, 0, none⟩)] w fun e w' => (∃ v, e = .returned v) ∧ ∃ m, w' = w.drewN m := by
  have hr : w.cell? ⟨M, 1, none⟩ = some (.pointer none) := cell_at hM 1
  clear hM
  go_enter Tryz.func73, Tryz.ntmps73
  go_wp2_with fail
  refine (walkA_nil _ _).mono ?_
  rintro e w' ⟨rfl, m, rfl⟩
  go_wp2_with fail
  go_end0
  exact ⟨⟨_, rfl⟩, m, rfl⟩

set_option maxHeartbeats 1000000 in
set_option maxRecDepth 100000 in
theorem betweenB1_nil (M b1 b2 b3 : Nat) (lo hi : Int) (f : Value) (w : World) (hM : MapNew w M 77 195) (h1 : w.cell? ⟨b1, 0, none⟩ = some (.pointer (some ⟨M, 0, none⟩))) (h2 : w.cell? ⟨b2, 0, none⟩ = some (.int .u64 lo)) (h3 : w.cell? ⟨b3, 0, none⟩ = some (.int .u64 hi)) :
    Calls Tryz.prog 70 #[f, .pointer (some ⟨b1, 0, none⟩), .pointer (some ⟨b2, 0, none⟩), .pointer (some ⟨b3, 0, none⟩)] w fun e w' => (∃ v, e = .returned v) ∧ ∃ m, w' = w.drewN m := by
  have hr : w.cell? ⟨M, 1, none⟩ = some (.pointer none) := cell_at hM 1
  have ho : w.cell? ⟨M, 0, none⟩ = some (.func (.func 77) #[] #[]) := cell_at hM 0
  clear hM
  go_enter Tryz.func70, Tryz.ntmps70
  go_wp2_with fail
  go_quiet (fail)
  go_wp2_with fail
  go_end0
  exact ⟨⟨_, rfl⟩, _, rfl⟩

theorem betweenB_any (m : Option Addr) (lo hi : Int) (w : World) : Calls Tryz.prog 42 #[.pointer m, .int .u64 lo, .int .u64 hi] w fun e w' =>
    e = .returned (.func (.func 70) #[] #[.pointer (some ⟨w.heap.size, 0, none⟩), .pointer (some ⟨w.heap.size + 1, 0, none⟩), .pointer (some ⟨w.heap.size + 2, 0, none⟩)]) ∧
    w' = ((w.alloc (.cells #[.pointer m] 123)).alloc (.cells #[.int .u64 lo] 24)).alloc (.cells #[.int .u64 hi] 24) := by
  go_enter Tryz.func42, Tryz.ntmps42
  go_wp2
  go_ret
  exact ⟨rfl, rfl⟩

theorem J_drewN {β : Type} {B : Nat} {J : β → World → Prop} (hJ : AbidesFrom B J) {s : β} {W : World} (h : J s W) (m : Nat) : J s (W.drewN m) :=
  hJ s W _ none h ⟨rfl, rfl, rfl, Nat.le_refl _, fun _ _ _ => rfl⟩ (fun r e => by cases e)

theorem allA1_stops (n M b : Nat) (w : World) (hM : MapNew w M 51 137) (hb : w.cell? ⟨b, 0, none⟩ = some (.pointer (some ⟨M, 0, none⟩))) :
    SeqStopsK Fence.wide n Tryz.prog 73 #[.pointer (some ⟨b, 0, none⟩)] (fun x : S76 => #[.int .u8 x.f0, .agg #[.int .u8 x.f0, .int .u64 x.f1, .int .u8 x.f2]]) (fun _ _ => True) (fun ys => ys = []) (fun _ => False) 0 w := fun l J Jx W hW hJ _ hY h0 =>
  callsIn_wide.2 ((allA1_nil M b _ W (hM.move (T := 0) (Moves.below hW) (by decide)) (pw_cell_below hW hb)).mono fun e W' ⟨he, m, hm⟩ => ⟨he, .inl ⟨[], rfl, hm ▸ J_drewN hJ h0 m⟩⟩)

theorem betweenB1_stops (n M b1 b2 b3 : Nat) (lo hi : Int) (w : World) (hM : MapNew w M 77 195) (h1 : w.cell? ⟨b1, 0, none⟩ = some (.pointer (some ⟨M, 0, none⟩))) (h2 : w.cell? ⟨b2, 0, none⟩ = some (.int .u64 lo)) (h3 : w.cell? ⟨b3, 0, none⟩ = some (.int .u64 hi)) :
    SeqStopsK Fence.wide n Tryz.prog 70 #[.pointer (some ⟨b1, 0, none⟩), .pointer (some ⟨b2, 0, none⟩), .pointer (some ⟨b3, 0, none⟩)] (fun x : Value × Value => #[x.1, x.2]) (fun _ _ => True) (fun ys => ys = []) (fun _ => False) 0 w := fun l J Jx W hW hJ _ hY h0 =>
  callsIn_wide.2 ((betweenB1_nil M b1 b2 b3 lo hi _ W (hM.move (T := 0) (Moves.below hW) (by decide)) (pw_cell_below hW h1) (pw_cell_below hW h2) (pw_cell_below hW h3)).mono fun e W' ⟨he, m, hm⟩ => ⟨he, .inl ⟨[], rfl, hm ▸ J_drewN hJ h0 m⟩⟩)

set_option maxRecDepth 100000 in
set_option maxHeartbeats 4000000 in
theorem collect_in (n : Nat) (hn : 4 ≤ n) (M : Nat) (w : World) (hM : MapNew w M 51 137) :
    CallsIn Fence.wide n Tryz.prog 19 #[.pointer (some ⟨M, 0, none⟩)] w fun e W' => e = .returned (.tuple #[.slice none 0 0, .slice none 0 0]) ∧ Below w.heap.size w W' := by
  have h1 : 1 ≤ n := by omega
  refine callsIn_of_wp_marks Tryz.func19 rfl trivial ?_ rfl
  simp only [Tryz.ntmps19, List.size_toArray, List.length_cons, List.length_nil, Nat.reduceAdd, Nat.reduceSub, Array.replicate_succ, Array.replicate_zero, List.push_toArray, List.append_toArray, List.nil_append, List.cons_append]
  have HM := Aside0.mk hM
  clear hM
  gi_wp2_with (refine ⟨trivial, ?_⟩; gi_at_call 45; refine (callsIn_wide.2 (allA_any _ _)).mono ?_; rintro e w' ⟨rfl, rfl⟩)
  obtain ⟨W0, hW0⟩ : ∃ W0 : World, W0 = ((w.alloc (.cells #[.slice none 0 0] 72)).alloc (.cells #[.slice none 0 0] 29)).alloc (.cells #[.pointer (some ⟨M, 0, none⟩)] 56) := ⟨_, rfl⟩
  have hx1 : Boxed W0 w.heap.size 72 (.slice none 0 0) := by rw [hW0]; exact ((Boxed.new w _ _).alloc _).alloc _
  have hx2 : Boxed W0 (w.heap.size + 1) 29 (.slice none 0 0) := by
    have := (Boxed.new (w.alloc (.cells #[.slice none 0 0] 72)) 29 (.slice none 0 0)).alloc (.cells #[.pointer (some ⟨M, 0, none⟩)] 56)
    rw [World.size_alloc] at this
    rw [hW0]
    exact this
  have hx3 : Boxed W0 (w.heap.size + 1 + 1) 56 (.pointer (some ⟨M, 0, none⟩)) := by
    have := Boxed.new ((w.alloc (.cells #[.slice none 0 0] 72)).alloc (.cells #[.slice none 0 0] 29)) 56 (.pointer (some ⟨M, 0, none⟩))
    simp only [World.size_alloc] at this
    rw [hW0]
    exact this
  have hB0 : Below w.heap.size w W0 := by rw [hW0]; exact (((Below.refl _ w).alloc (Nat.le_refl _) _).alloc (by simp) _).alloc (by simp; omega) _
  have hszl := hB0.size
  rw [← hW0]
  clear hW0
  refine wpIn_rangeFunc_ownH rfl h1 (gf := 73) (lb := #[.pointer (some ⟨w.heap.size + 1 + 1, 0, none⟩)]) rfl trivial (enters_of Tryz.func73 (by kernel_rfl) rfl)
    (allA1_stops (n - 1) M (w.heap.size + 1 + 1) W0 (HM.out.move (T := 0) (Moves.below hB0) (by decide)) hx3.cell) (fun _ _ => trivial) (fun _ _ _ _ _ _ _ _ => trivial) (Below.refl _ _) (fun _ => rfl)
    (fun pre W => (Boxed W w.heap.size 72 (.slice none 0 0) ∧ Boxed W (w.heap.size + 1) 29 (.slice none 0 0)) ∧ Below w.heap.size w W)
    (fun _ _ _ => False)
    (OwnFrom.and (OwnFrom.and (Own.from (boxed_own _ _ _) _) (Own.from (boxed_own _ _ _) _)) (ownFrom_below (Nat.le_refl _) hszl))
    (fun _ _ _ _ _ hs _ _ => hs)
    ⟨⟨hx1, hx2⟩, hB0⟩
    (fun x a' W => True)
    (fun _ _ _ _ _ _ _ _ _ => trivial)
    ?assign ?body ?done ?stop
  case assign =>
    rintro l pre x W K ⟨⟨b1, b2⟩, hB⟩ hK
    have hu := Tryz.underlying76
    gi_wp2
    exact hK _ _ ((KeepsOthers.alloc _ _).from _) trivial ⟨⟨b1.alloc _, b2.alloc _⟩, hB.alloc hB.size _⟩ trivial
  case body =>
    rintro l pre x a' W hlW _ _ _ hlt
    exact absurd hlt (Nat.not_lt_zero _)
  case done =>
    rintro D ys W hD rfl ⟨⟨b1, b2⟩, hB⟩ hK
    have c1 := b1.cell
    have c2 := b2.cell
    gi_wp2
    gi_region
    gi_wp2
    have hK' : W.drew.heap[D]? = some (Obj.deferred (some [])) := hK
    refine ⟨by simp, .inl ⟨_, _, rfl, run_takeDeferred hK', ?_⟩⟩
    exact ⟨_, results_tmp2 rfl _ _ _, rfl, hB.drew.trans (belowK_b (w := w) (Nat.le_refl _) W.drew D _ _ (by omega) hK' rfl rfl)⟩
  case stop =>
    rintro D c pre W _ _ h _
    exact h.elim

theorem collect_new (M : Nat) (w : World) (hM : MapNew w M 51 137) :
    Calls Tryz.prog 19 #[.pointer (some ⟨M, 0, none⟩)] w fun e W' => e = .returned (.tuple #[.slice none 0 0, .slice none 0 0]) ∧ Below w.heap.size w W' :=
  callsIn_wide.1 (collect_in 4 (Nat.le_refl _) M w hM)

set_option maxRecDepth 100000 in
set_option maxHeartbeats 4000000 in
theorem scan_in (n : Nat) (hn : 4 ≤ n) (B : Nat) (lo hi lim : Int) (w : World) (hS : ShelfNew w B) :
    CallsIn Fence.wide n Tryz.prog 17 #[.pointer (some ⟨B, 0, none⟩), .int .u64 lo, .int .u64 hi, .int .i64 lim] w fun e W' => e = .returned (.tuple #[.slice none 0 0, .bool false]) ∧ Below w.heap.size w W' := by
  have h1 : 1 ≤ n := by omega
  obtain ⟨M, hB, hM⟩ := hS
  have hc : w.cell? ⟨B, 0, none⟩ = some (.pointer (some ⟨M, 0, none⟩)) := cell_at hB 0
  have hBl : B < w.heap.size := (Array.getElem?_eq_some_iff.1 hB).1
  have HM := Aside0.mk hM
  clear hM hB
  have hcW : ((((w.alloc (.cells #[.int .i64 lim] 3)).alloc (.cells #[.slice none 0 0] 28)).alloc (.cells #[.bool false] 4)).alloc (.cells #[.slice none 0 0] 28)).cell? ⟨B, 0, none⟩ = some (.pointer (some ⟨M, 0, none⟩)) :=
    pw_cell_below ((((below_alloc (Below.refl _ w) _).alloc (by simp) _).alloc (by simp; omega) _).alloc (by simp; omega) _) hc
  refine callsIn_of_wp_marks Tryz.func17 rfl trivial ?_ rfl
  simp only [Tryz.ntmps17, List.size_toArray, List.length_cons, List.length_nil, Nat.reduceAdd, Nat.reduceSub, Array.replicate_succ, Array.replicate_zero, List.push_toArray, List.append_toArray, List.nil_append, List.cons_append]
  gi_wp2_with (refine ⟨trivial, ?_⟩; gi_at_call 42; refine (callsIn_wide.2 (betweenB_any _ _ _ _)).mono ?_; rintro e w' ⟨rfl, rfl⟩)
  obtain ⟨W4, hW4⟩ : ∃ W4 : World, W4 = (((w.alloc (.cells #[.int .i64 lim] 3)).alloc (.cells #[.slice none 0 0] 28)).alloc (.cells #[.bool false] 4)).alloc (.cells #[.slice none 0 0] 28) := ⟨_, rfl⟩
  have hB4 : Below w.heap.size w W4 := by rw [hW4]; exact (((below_alloc (Below.refl _ w) _).alloc (by simp) _).alloc (by simp; omega) _).alloc (by simp; omega) _
  have hz4 : W4.heap.size = w.heap.size + 1 + 1 + 1 + 1 := by rw [hW4]; simp
  have y1 : Boxed W4 (w.heap.size + 1) 28 (.slice none 0 0) := by
    have := ((Boxed.new (w.alloc (.cells #[.int .i64 lim] 3)) 28 (.slice none 0 0)).alloc (.cells #[.bool false] 4)).alloc (.cells #[.slice none 0 0] 28)
    simp only [World.size_alloc] at this
    rw [hW4]; exact this
  have y2 : Boxed W4 (w.heap.size + 1 + 1) 4 (.bool false) := by
    have := (Boxed.new ((w.alloc (.cells #[.int .i64 lim] 3)).alloc (.cells #[.slice none 0 0] 28)) 4 (.bool false)).alloc (.cells #[.slice none 0 0] 28)
    simp only [World.size_alloc] at this
    rw [hW4]; exact this
  have y3 : Boxed W4 (w.heap.size + 1 + 1 + 1) 28 (.slice none 0 0) := by
    have := Boxed.new (((w.alloc (.cells #[.int .i64 lim] 3)).alloc (.cells #[.slice none 0 0] 28)).alloc (.cells #[.bool false] 4)) 28 (.slice none 0 0)
    simp only [World.size_alloc] at this
    rw [hW4]; exact this
  rw [← hW4]
  clear hW4 hcW
  obtain ⟨W5, hW5⟩ : ∃ W5 : World, W5 = ((W4.alloc (.cells #[.pointer (some ⟨M, 0, none⟩)] 123)).alloc (.cells #[.int .u64 lo] 24)).alloc (.cells #[.int .u64 hi] 24) := ⟨_, rfl⟩
  have hB5 : Below W4.heap.size W4 W5 := by rw [hW5]; exact ((below_alloc (Below.refl _ W4) _).alloc (by simp) _).alloc (by simp; omega) _
  have z1 : Boxed W5 (w.heap.size + 1 + 1 + 1 + 1) 123 (.pointer (some ⟨M, 0, none⟩)) := by
    have := ((Boxed.new W4 123 (.pointer (some ⟨M, 0, none⟩))).alloc (.cells #[.int .u64 lo] 24)).alloc (.cells #[.int .u64 hi] 24)
    rw [hz4] at this
    rw [hW5]; exact this
  have z2 : Boxed W5 (w.heap.size + 1 + 1 + 1 + 1 + 1) 24 (.int .u64 lo) := by
    have := (Boxed.new (W4.alloc (.cells #[.pointer (some ⟨M, 0, none⟩)] 123)) 24 (.int .u64 lo)).alloc (.cells #[.int .u64 hi] 24)
    simp only [World.size_alloc, hz4] at this
    rw [hW5]; exact this
  have z3 : Boxed W5 (w.heap.size + 1 + 1 + 1 + 1 + 2) 24 (.int .u64 hi) := by
    have := Boxed.new ((W4.alloc (.cells #[.pointer (some ⟨M, 0, none⟩)] 123)).alloc (.cells #[.int .u64 lo] 24)) 24 (.int .u64 hi)
    simp only [World.size_alloc, hz4] at this
    rw [hW5]; exact this
  have x1 : Boxed W5 (w.heap.size + 1) 28 (.slice none 0 0) := (hB5.block _ (by omega)).trans y1
  have x2 : Boxed W5 (w.heap.size + 1 + 1) 4 (.bool false) := (hB5.block _ (by omega)).trans y2
  have x3 : Boxed W5 (w.heap.size + 1 + 1 + 1) 28 (.slice none 0 0) := (hB5.block _ (by omega)).trans y3
  have hB : Below w.heap.size w W5 := hB4.trans (hB5.mono (by omega))
  have hszl := hB.size
  rw [← hW5]
  clear hW5 hB4 hB5 y1 y2 y3
  refine wpIn_rangeFunc_ownH rfl h1 (gf := 70) (lb := #[.pointer (some ⟨w.heap.size + 1 + 1 + 1 + 1, 0, none⟩), .pointer (some ⟨w.heap.size + 1 + 1 + 1 + 1 + 1, 0, none⟩), .pointer (some ⟨w.heap.size + 1 + 1 + 1 + 1 + 2, 0, none⟩)]) rfl trivial (enters_of Tryz.func70 (by kernel_rfl) rfl)
    (betweenB1_stops (n - 1) M _ _ _ lo hi W5 (HM.out.move (T := 0) (Moves.below hB) (by decide)) z1.cell z2.cell z3.cell) (fun _ _ => trivial) (fun _ _ _ _ _ _ _ _ => trivial) (Below.refl _ _) (fun _ => rfl)
    (fun pre W => ((Boxed W (w.heap.size + 1) 28 (.slice none 0 0) ∧ Boxed W (w.heap.size + 1 + 1) 4 (.bool false)) ∧ Boxed W (w.heap.size + 1 + 1 + 1) 28 (.slice none 0 0)) ∧ Below w.heap.size w W)
    (fun _ _ _ => False)
    (OwnFrom.and (OwnFrom.and (OwnFrom.and (Own.from (boxed_own _ _ _) _) (Own.from (boxed_own _ _ _) _)) (Own.from (boxed_own _ _ _) _)) (ownFrom_below (Nat.le_refl _) hszl))
    (fun _ _ _ _ _ hs _ _ => hs)
    ⟨⟨⟨x1, x2⟩, x3⟩, hB⟩
    (fun x a' W => True)
    (fun _ _ _ _ _ _ _ _ _ => trivial)
    ?assign ?body ?done ?stop
  case assign =>
    rintro l pre x W K hI hK
    gi_wp2
    exact hK _ _ (KeepsFrom.refl _ _) trivial hI trivial
  case body =>
    rintro l pre x a' W hlW _ _ _ hlt
    exact absurd hlt (Nat.not_lt_zero _)
  case done =>
    rintro D ys W hD rfl ⟨⟨⟨b1, b2⟩, b3⟩, hBW⟩ hK
    have c1 := b1.cell
    have c2 := b2.cell
    have c3 := b3.cell
    have f1 := b1.frozen
    have f2 := b2.frozen
    gi_wp2
    obtain ⟨W', hW'⟩ : ∃ W' : World, W' = (W.setCell ⟨w.heap.size + 1, 0, none⟩ (.slice none 0 0)).setCell ⟨w.heap.size + 1 + 1, 0, none⟩ (.bool false) := ⟨_, rfl⟩
    have e1 : Boxed W' (w.heap.size + 1) 28 (.slice none 0 0) := by rw [hW']; exact (b1.set _).other (by omega) _
    have e2 : Boxed W' (w.heap.size + 1 + 1) 4 (.bool false) := by rw [hW']; exact (b2.other (by omega) _).set _
    have hBW' : Below w.heap.size w W' := by rw [hW']; exact (hBW.setCell (p := ⟨w.heap.size + 1, 0, none⟩) (by simp) _).setCell (p := ⟨w.heap.size + 1 + 1, 0, none⟩) (by simp; omega) _
    have hK' : W'.heap[D]? = some (Obj.deferred (some [])) := by rw [hW']; exact (KeepsOthers.setCell _ _ _).same D _ ((KeepsOthers.setCell _ _ _).same D _ hK rfl) rfl
    rw [← hW']
    clear hW'
    have e3 : (W'.putObj D (.deferred none)).cell? ⟨w.heap.size + 1, 0, none⟩ = some (.slice none 0 0) := cell_kept e1.cell (grownBy_putObj' _ D (.deferred none)) (fun r e => by cases e; exact ⟨_, hK', rfl⟩)
    have e4 : (W'.putObj D (.deferred none)).cell? ⟨w.heap.size + 1 + 1, 0, none⟩ = some (.bool false) := cell_kept e2.cell (grownBy_putObj' _ D (.deferred none)) (fun r e => by cases e; exact ⟨_, hK', rfl⟩)
    refine ⟨by simp, .inl ⟨_, _, rfl, run_takeDeferred hK', ?_⟩⟩
    refine ⟨.tuple #[.slice none 0 0, .bool false], ?_, rfl, hBW'.trans (belowK_b (w := w) (Nat.le_refl _) W' D _ _ (by omega) hK' rfl rfl)⟩
    simp [results, Tryz.f17, go_sem, e3, e4]
  case stop =>
    rintro D c pre W _ _ h _
    exact h.elim

theorem scan_new (B : Nat) (lo hi lim : Int) (w : World) (hS : ShelfNew w B) :
    Calls Tryz.prog 17 #[.pointer (some ⟨B, 0, none⟩), .int .u64 lo, .int .u64 hi, .int .i64 lim] w fun e W' => e = .returned (.tuple #[.slice none 0 0, .bool false]) ∧ Below w.heap.size w W' :=
  callsIn_wide.1 (scan_in 4 (Nat.le_refl _) B lo hi lim w hS)
end Go.Proofs.YtcpcllfmepfjgaaGreatDoor.core
