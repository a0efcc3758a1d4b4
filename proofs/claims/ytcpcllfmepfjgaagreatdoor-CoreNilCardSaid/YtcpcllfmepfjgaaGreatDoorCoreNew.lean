/- What the constructors of layers 3, 6, 7, 8 and core.New make of a configuration that may be: the new blocks, one by one. -/
import Derived.Test.YtcpcllfmepfjgaaGreatDoorQCoreNilx7
import Derived.Outline
import Derived.Laws.EntriesVeiled
import Derived.RegionTactic
import Derived.BigRegion
namespace Go.Proofs.YtcpcllfmepfjgaaGreatDoor.core
open Go.RowKit Go.Proofs.YtcpcllfmepfjgaaGreatDoorW.PrintWords Go.Proofs.YtcpcllfmepfjgaaGreatDoorW.PrintLast Go.Proofs.YtcpcllfmepfjgaaGreatDoorW.PrintMore Go.Proofs.YtcpcllfmepfjgaaGreatDoor.PCoreNil
set_option linter.unusedVariables false
set_option linter.unusedSimpArgs false

def mapA : Array Value := #[.func (.func 51) #[] #[], .pointer none]
def mapB : Array Value := #[.func (.func 77) #[] #[], .pointer none]

theorem newOrdA (w : World) : Calls Tryz.prog 26 #[] w fun e w' =>
    e = .returned (.pointer (some ⟨w.heap.size, 0, none⟩)) ∧ w' = w.alloc (.cells #[.func (.func 51) #[] #[], .pointer none] 137) := by
  go_enter Tryz.func26, Tryz.ntmps26
  go_wp2
  go_ret
  exact ⟨rfl, rfl⟩

theorem newOrdB (w : World) : Calls Tryz.prog 54 #[] w fun e w' =>
    e = .returned (.pointer (some ⟨w.heap.size, 0, none⟩)) ∧ w' = w.alloc (.cells #[.func (.func 77) #[] #[], .pointer none] 195) := by
  go_enter Tryz.func54, Tryz.ntmps54
  go_wp2
  go_ret
  exact ⟨rfl, rfl⟩

theorem rangesNew (w : World) : Calls Tryz.prog 27 #[.int .u8 0, .int .i64 8192] w fun e w' =>
    e = .returned (.tuple #[.pointer (some ⟨w.heap.size + 1, 0, none⟩), .int .i64 0]) ∧
    w' = (w.alloc (.cells #[.int .u64 0, .int .u64 18446744073709551615, .int .u8 0] 52)).alloc (.cells #[.int .i64 8192, .slice (some ⟨w.heap.size, 0, none⟩) 1 1] 141) := by
  have hu1 := Tryz.underlying52
  have hu2 := Tryz.underlying141
  go_enter Tryz.func27, Tryz.ntmps27
  go_wp2
  go_ret2
  exact ⟨rfl, rfl⟩

theorem newShelf (w : World) : Calls Tryz.prog 28 #[.int .i64 32768] w fun e w' =>
    e = .returned (.tuple #[.pointer (some ⟨w.heap.size + 1, 0, none⟩), .int .i64 0]) ∧
    w' = (w.alloc (.cells #[.func (.func 77) #[] #[], .pointer none] 195)).alloc (.cells #[.pointer (some ⟨w.heap.size, 0, none⟩), .int .i64 32768, .int .i64 0] 125) := by
  go_enter Tryz.func28, Tryz.ntmps28
  go_wp2_with (go_at_call 54; refine (newOrdB _).mono ?_; rintro e w' ⟨rfl, rfl⟩)
  go_ret2
  exact ⟨rfl, rfl⟩

theorem heap_new (w : World) (o : Obj) : (w.alloc o).heap[w.heap.size]? = some o := by
  show (w.heap.push o)[w.heap.size]? = _
  simp
theorem after_one {W w : World} {o : Obj} (hW : W = w.alloc o) : W.heap[w.heap.size]? = some o ∧ Below w.heap.size w W := by
  subst hW
  exact ⟨heap_new w o, (Below.refl _ _).alloc (Nat.le_refl _) _⟩
theorem after_two {W w : World} {o p : Obj} (hW : W = (w.alloc o).alloc p) : W.heap[w.heap.size]? = some o ∧ W.heap[w.heap.size + 1]? = some p ∧ Below w.heap.size w W := by
  subst hW
  refine ⟨(Below.heap_alloc (w.alloc o) p w.heap.size (by simp)).trans (heap_new w o), ?_, ((Below.refl _ _).alloc (Nat.le_refl _) _).alloc (by simp) _⟩
  have := heap_new (w.alloc o) p
  rw [World.size_alloc] at this
  exact this
theorem cell_at {w : World} {b : Nat} {cs : Array Value} {t : TypeId} {f : Nat × Nat} (h : w.heap[b]? = some (.cells cs t f)) (j : Nat) : w.cell? ⟨b, j, none⟩ = cs[j]? := by
  simp only [World.cell?, h]
  rfl
theorem frozen_at {w : World} {b : Nat} {cs : Array Value} {t : TypeId} (h : w.heap[b]? = some (.cells cs t (0, 0))) (j : Nat) : w.frozen? ⟨b, j, none⟩ = false := by
  simp [World.frozen?, h]

/-! ### An end that is new -/
def PeerCells (h q win : Int) : Array Value := #[.int .u8 h, .int .i64 q, .int .i64 win, .int .u64 0, .int .u64 0, .slice none 0 0, .int .u64 0, .int .u8 h, .int .u64 win, .int .u64 0, .slice none 0 0]
def PeerAt (W : World) (base : Nat) (self q win : Int) (h : Nat) (v : Value) : Prop :=
  ((h : Int) = self ∧ v = .pointer none) ∨ ((h : Int) ≠ self ∧ ∃ b, base ≤ b ∧ v = .pointer (some ⟨b, 0, none⟩) ∧ W.heap[b]? = some (.cells (PeerCells h q win) 116 (0, 0)))
theorem PeerAt.move {W W' : World} {base : Nat} {self q win : Int} {h : Nat} {v : Value} (p : PeerAt W base self q win h v) (hm : ∀ (b : Nat) (cs : Array Value), W.heap[b]? = some (Obj.cells cs 116 (0, 0)) → W'.heap[b]? = W.heap[b]?) : PeerAt W' base self q win h v := by
  rcases p with p | ⟨hne, b, hb, rfl, hh⟩
  · exact .inl p
  · exact .inr ⟨hne, b, hb, rfl, (hm b _ hh).trans hh⟩

/-- The peers' array: the first i entries are made, the others are nil. -/
def PeersRow (W : World) (base : Nat) (P H : Nat) (self q win : Int) (i : Nat) : Prop :=
  ∃ vs : List Value, W.ownsRow base 108 1 (.slice (some ⟨P, 0, none⟩) H H) H vs ∧ (∀ h v, h < i → vs[h]? = some v → PeerAt W base self q win h v) ∧ (∀ h, i ≤ h → h < H → vs[h]? = some (.pointer none))
theorem PeersRow.lt {W : World} {base P H : Nat} {self q win : Int} {i : Nat} (h : PeersRow W base P H self q win i) (hH : 0 < H) : P < W.heap.size := by
  obtain ⟨vs, ho, _⟩ := h
  exact own_lt ho P rfl
theorem PeersRow.old {W : World} {base P H : Nat} {self q win : Int} {i : Nat} (h : PeersRow W base P H self q win i) (hi : i < H) : W.cell? ⟨P, i, none⟩ = some (.pointer none) ∧ W.frozen? ⟨P, i, none⟩ = false := by
  obtain ⟨vs, ho, _, hn⟩ := h
  exact ⟨(ho.cellAt i (by omega)).trans (hn i (Nat.le_refl _) hi), ho.frozenAt i⟩
theorem PeersRow.skip {W : World} {base P H : Nat} {self q win : Int} {i : Nat} (h : PeersRow W base P H self q win i) (hi : i < H) (he : (i : Int) = self) : PeersRow W base P H self q win (i + 1) := by
  obtain ⟨vs, ho, hm, hn⟩ := h
  refine ⟨vs, ho, fun h v hh hv => ?_, fun h h1 h2 => hn h (by omega) h2⟩
  rcases Nat.lt_or_ge h i with h3 | h3
  · exact hm h v h3 hv
  · obtain rfl : h = i := by omega
    rw [hn h (Nat.le_refl _) hi] at hv
    exact .inl ⟨he, (Option.some.inj hv).symm⟩
theorem PeersRow.made {W : World} {base P H : Nat} {self q win : Int} {i : Nat} (h : PeersRow W base P H self q win i) (hi : i < H) (hne : (i : Int) ≠ self) (hb : base ≤ W.heap.size) :
    PeersRow ((W.setCell ⟨P, i, none⟩ (.pointer (some ⟨W.heap.size, 0, none⟩))).alloc (.cells (PeerCells i q win) 116)) base P H self q win (i + 1) := by
  have hP : P < W.heap.size := h.lt (by omega)
  obtain ⟨vs, ho, hm, hn⟩ := h
  obtain ⟨hst0, hg⟩ := ho.stored i (.pointer (some ⟨W.heap.size, 0, none⟩))
  have hst := hst0.alloc (.cells (PeerCells i q win) 116)
  have hz : (W.setCell ⟨P, i, none⟩ (.pointer (some ⟨W.heap.size, 0, none⟩))).heap.size = W.heap.size := by simp [World.setCell]
  have hl : vs.length = H := by have := ho.1; omega
  refine ⟨_, hst, fun h v hh hv => ?_, fun h h1 h2 => ?_⟩
  · rcases Nat.lt_or_ge h i with h3 | h3
    · rw [List.getElem?_set_ne (by omega)] at hv
      refine PeerAt.move (hm h v h3 hv) (fun b cs hb' => ?_)
      have hbP : b ≠ P := by
        rintro rfl
        obtain ⟨cells, hc⟩ := own_typed ho b rfl
        rw [hc] at hb'
        injection hb' with hb'
        injection hb' with _ hb' _
        exact absurd hb' (by decide)
      have hbl : b < W.heap.size := (Array.getElem?_eq_some_iff.1 hb').1
      exact (Below.heap_alloc _ _ b (by rw [hz]; exact hbl)).trans (Below.heap_setCell _ _ _ b hbP)
    · obtain rfl : h = i := by omega
      rw [List.getElem?_set_self (by omega)] at hv
      obtain rfl := Option.some.inj hv
      refine .inr ⟨hne, _, hb, rfl, ?_⟩
      have := heap_new (W.setCell ⟨P, h, none⟩ (.pointer (some ⟨W.heap.size, 0, none⟩))) (.cells (PeerCells h q win) 116)
      rw [hz] at this
      exact this
  · rw [List.getElem?_set_ne (by omega)]
    exact hn h (by omega) h2

def EndAt (W : World) (base : Nat) (self q win : Int) (H B : Nat) : Prop :=
  base ≤ B ∧ ∃ P, W.heap[B]? = some (.cells #[.slice (some ⟨P, 0, none⟩) H H] 107 (0, 0)) ∧ PeersRow W base P H self q win H

/-- From W to W' no block of cells turns but such of type T. -/
def Moves (T : Nat) (W W' : World) : Prop := ∀ (b : Nat) (cs : Array Value) (t : TypeId), W.heap[b]? = some (Obj.cells cs t (0, 0)) → t ≠ T → W'.heap[b]? = W.heap[b]?
theorem Moves.below {T : Nat} {W W' : World} (h : Below W.heap.size W W') : Moves T W W' := fun b cs t hb _ => h.block b (Array.getElem?_eq_some_iff.1 hb).1
theorem Moves.set {T : Nat} {W : World} {g : Nat} {cells : Array Value} (hg : W.heap[g]? = some (Obj.cells cells T (0, 0))) (j : Nat) (u : Value) : Moves T W (W.setCell ⟨g, j, none⟩ u) := fun b cs t hb ht => by
  refine Below.heap_setCell W ⟨g, j, none⟩ u b (fun (e : b = g) => ?_)
  subst e
  rw [hg] at hb
  injection hb with hb'
  injection hb' with _ hb' _
  exact ht hb'.symm
theorem Moves.trans {T : Nat} {A B C : World} (h : Moves T A B) (k : Moves T B C) : Moves T A C := fun b cs t hb ht => (k b cs t ((h b cs t hb ht).trans hb) ht).trans (h b cs t hb ht)
theorem R_moves {α : Type} {d : Kd α} {e T : Nat} {W W' : World} {base : Nat} {ok : Nat → Prop} {v : Value} {xs : List α} (h : d.R e W base ok v xs) (hm : Moves T W W') (ht : ∀ q, q ∈ e :: d.E → q ≠ T) : d.R e W' base ok v xs :=
  Kd.R_mono (Kd.R_move (Kd.R_bound h) (fun k hk => by
    obtain ⟨_, _, _, q, hq, cells, hc⟩ := hk
    exact hm k cells q hc (ht q hq))) (fun _ hk => hk.1)
theorem own_moves {e T : Nat} {W W' : World} {base size n : Nat} {v : Value} {xs : List Value} (h : W.ownsRow base e size v n xs) (hm : Moves T W W') (ht : e ≠ T) : W'.ownsRow base e size v n xs :=
  own_move h (fun k hk => by
    obtain ⟨cells, hc⟩ := own_typed h k hk
    exact hm k cells e hc ht)

theorem PeersRow.move {T : Nat} {W W' : World} {base P H : Nat} {self q win : Int} {i : Nat} (h : PeersRow W base P H self q win i) (hm : Moves T W W') (h1 : T ≠ 108) (h2 : T ≠ 116) : PeersRow W' base P H self q win i := by
  obtain ⟨vs, ho, hp, hn⟩ := h
  exact ⟨vs, own_moves ho hm (Ne.symm h1), fun h v hh hv => PeerAt.move (hp h v hh hv) (fun b cs hc => hm b cs _ hc (Ne.symm h2)), hn⟩
theorem EndAt.move {T : Nat} {W W' : World} {base : Nat} {self q win : Int} {H B : Nat} (h : EndAt W base self q win H B) (hm : Moves T W W') (h1 : T ≠ 108) (h2 : T ≠ 116) (h3 : T ≠ 107) : EndAt W' base self q win H B := by
  obtain ⟨hb, P, hE, hP⟩ := h
  exact ⟨hb, P, (hm B _ _ hE (Ne.symm h3)).trans hE, hP.move hm h1 h2⟩

theorem infoPeer : (Tryz.prog.info? 108).map (fun i => (i.zero, i.size, i.bytes)) = some (some (.pointer none), 1, 8) := by kernel_rfl

set_option maxHeartbeats 2000000 in
set_option maxRecDepth 100000 in
theorem xonceNew (self : Int) (H : Nat) (q win : Int) (w : World) (h1 : 1 ≤ H) (h2 : H ≤ 16) (s0 : 0 ≤ self) (s1 : self < H) (q1 : 1 ≤ q) (q2 : q ≤ 16) (w1 : 1 ≤ win) (w2 : win ≤ q) :
    Calls Tryz.prog 29 #[.int .u8 self, .int .i64 H, .int .i64 q, .int .i64 win] w fun e w' =>
      ∃ B, e = .returned (.tuple #[.pointer (some ⟨B, 0, none⟩), .int .i64 0]) ∧ EndAt w' w.heap.size self q win H B ∧ Below w.heap.size w w' := by
  obtain ⟨i0, hi, hz0, hz1, hz2⟩ := info_parts infoPeer
  have HF := Aside0.mk (xonce_fits.calls self H q win true · (by
    unfold xonce_fits.f
    have : wrap64 self = self := by unfold wrap64; omega
    rw [if_pos (by omega), if_pos (by omega), this, if_pos (by omega), if_pos (by omega), if_pos (by omega), if_pos (by omega)]
    simp only [Option.some.injEq, decide_eq_true_eq]; omega))
  go_enter Tryz.func29, Tryz.ntmps29
  go_wp2_with fail
  refine (HF.out _).mono ?_
  rintro e w' ⟨rfl, ⟨n1, rfl⟩⟩
  go_wp2_with (at_make; refine wpList_make_full _ rfl _ _ 105 rfl w.heap.size 108 i0 (.pointer none) 1 Tryz.underlying105 hi hz0 hz1 _ _ _ _ H rfl rfl rfl rfl ?b2 ?b3 ?b4 ?_; (case b2 => rw [hz2]; omega); (case b3 => unfold maxLen; omega); (case b4 => simp); intro wm hown hgrow)
  have hst : PeersRow (wm.alloc (.cells #[.slice (some ⟨w.heap.size, 0, none⟩) H H] 107)) w.heap.size w.heap.size H self q win 0 :=
    ⟨_, hown.alloc _, fun h v hh => absurd hh (by omega), fun h _ hh => by
      rw [show (Value.pointer none).cells = #[Value.pointer none] from rfl, toList_madeCells_one]
      simp [hh]⟩
  have hlt : w.heap.size < wm.heap.size := own_lt hown w.heap.size rfl
  have hbm : Below w.heap.size w (wm.alloc (.cells #[.slice (some ⟨w.heap.size, 0, none⟩) H H] 107)) :=
    ((Below.refl _ w).grown ⟨hgrow.os, hgrow.tape, hgrow.output, hgrow.size, hgrow.block⟩ (Nat.le_refl _) (fun k e => by cases e)).alloc (by omega) _
  have hE := heap_new wm (.cells #[.slice (some ⟨w.heap.size, 0, none⟩) H H] 107)
  have HST := Aside0.mk hst
  have HBM := Aside0.mk hbm
  have HE := Aside0.mk hE
  clear hst hbm hE hown hgrow hi hz0 hz1 hz2
  go_loopw [24] (fun v24 wr => ∃ i : Nat, i ≤ H ∧ v24 = .int .i64 i ∧ Aside0 (PeersRow wr w.heap.size w.heap.size H self q win i) ∧ Aside0 (wr.heap[wm.heap.size]? = some (.cells #[.slice (some ⟨w.heap.size, 0, none⟩) H H] 107 (0, 0))) ∧ Aside0 (Below w.heap.size w wr)) (fun v _ => H - (intOf v).toNat)
  case atStart => exact ⟨0, Nat.zero_le _, rfl, HST, HE, HBM⟩
  case round =>
    clear HST HBM HE
    obtain ⟨i, hi, rfl, HP, HE, HB⟩ := hrel
    by_cases hlt2 : i < H
    · obtain ⟨hc, hf⟩ := HP.out.old hlt2
      have hPlt := HP.out.lt (by omega)
      have he0 : wr.cell? ⟨wm.heap.size, 0, none⟩ = some (.slice (some ⟨w.heap.size, 0, none⟩) H H) := by rw [cell_at HE.out 0]; rfl
      have hBs := HB.out.size
      by_cases hself : (i : Int) = self
      · have hs1 : ((i : Int) != self) = false := by simp [hself]
        have hs2 : ((i : Int) == self) = true := by simp [hself]
        have HS := Aside0.mk hself
        clear hself
        go_wp2
        go_roundw
        case rel => exact ⟨i + 1, by omega, by go_num, ⟨HP.out.skip hlt2 HS.out⟩, HE, HB⟩
        case measure => simp [intOf]; omega
      · have hs1 : ((i : Int) != self) = true := by simp [hself]
        have hs2 : ((i : Int) == self) = false := by simp [hself]
        have HS := Aside0.mk hself
        clear hself
        go_wp2
        have hEl : wm.heap.size < wr.heap.size := (Array.getElem?_eq_some_iff.1 HE.out).1
        have HNe := Aside0.mk (show wm.heap.size ≠ w.heap.size by omega)
        go_roundw
        case rel =>
          refine ⟨i + 1, by omega, by go_num, ⟨HP.out.made hlt2 HS.out (by omega)⟩, ⟨?_⟩, ⟨?_⟩⟩
          · exact (Below.heap_alloc _ _ _ (by simpa [World.setCell] using hEl)).trans ((Below.heap_setCell wr ⟨w.heap.size, i, none⟩ _ _ HNe.out).trans HE.out)
          · exact (HB.out.setCell (p := ⟨w.heap.size, i, none⟩) (Nat.le_refl _) _).alloc (by simpa [World.setCell] using hBs) _
        case measure => simp [intOf]; omega
    · have hiH : i = H := by omega
      go_wp2
      go_ret2
      exact ⟨_, rfl, ⟨by omega, _, HE.out, hiH ▸ HP.out⟩, HB.out⟩
end Go.Proofs.YtcpcllfmepfjgaaGreatDoor.core
