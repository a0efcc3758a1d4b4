/- Core.State of a core that is new: what is said of its worlds. -/
import Derived.Test.YtcpcllfmepfjgaaGreatDoorEndState
import Derived.Test.YtcpcllfmepfjgaaGreatDoorEmpty
import Derived.Test.YtcpcllfmepfjgaaGreatDoorList2
import Derived.Test.YtcpcllfmepfjgaaGreatDoorStore
namespace Go.Proofs.YtcpcllfmepfjgaaGreatDoor.core
open Go.RowKit Go.Proofs.YtcpcllfmepfjgaaGreatDoorW.PrintWords Go.Proofs.YtcpcllfmepfjgaaGreatDoorW.PrintLast Go.Proofs.YtcpcllfmepfjgaaGreatDoorW.PrintMore Go.Proofs.YtcpcllfmepfjgaaGreatDoor.PCoreNil
set_option linter.unusedVariables false
set_option linter.unusedSimpArgs false

theorem blk_elim {W W' : World} {cs : Array Value} {t : TypeId} {b : Nat} {G : Prop} (h1 : W.heap[b]? = some (.cells cs t (0, 0))) (hb : Below W.heap.size W W') (k : W'.heap[b]? = some (.cells cs t (0, 0)) → b < W'.heap.size → G) : G :=
  have hl := (Array.getElem?_eq_some_iff.1 h1).1
  k ((hb.block b hl).trans h1) (Nat.lt_of_lt_of_le hl hb.size)
theorem new_drew (W : World) (o : Obj) : (W.alloc o).drew.heap[W.heap.size]? = some o := heap_new W o
theorem below_sets7 {B b : Nat} {W w : World} {v0 v1 v2 v3 v4 v5 v6 : Value} (h : Below B W w) (hb : B ≤ b) :
    Below B W (((((((w.setCell ⟨b, 0, none⟩ v0).setCell ⟨b, 1, none⟩ v1).setCell ⟨b, 2, none⟩ v2).setCell ⟨b, 3, none⟩ v3).setCell ⟨b, 4, none⟩ v4).setCell ⟨b, 5, none⟩ v5).setCell ⟨b, 6, none⟩ v6) :=
  ((((((h.setCell (p := ⟨b, 0, none⟩) hb v0).setCell (p := ⟨b, 1, none⟩) hb v1).setCell (p := ⟨b, 2, none⟩) hb v2).setCell (p := ⟨b, 3, none⟩) hb v3).setCell (p := ⟨b, 4, none⟩) hb v4).setCell (p := ⟨b, 5, none⟩) hb v5).setCell (p := ⟨b, 6, none⟩) hb v6
def hostZero : Array Value := #[.int .u8 0, .slice none 0 0, .slice none 0 0, .slice none 0 0, .int .i64 0, .int .i64 0, .slice none 0 0]
def CoreRest (W : World) (q wi self : Int) (H Bt Bs Bm Be base baseT : Nat) : Prop :=
  TableAt W baseT Bt 8192 [⟨0, 18446744073709551615, 0⟩] ∧ ShelfNew W Bs ∧ MapNew W Bm 51 137 ∧ EndAt W base self q wi H Be
theorem CoreRest.below {W W' : World} {q wi self : Int} {H Bt Bs Bm Be base baseT : Nat} (h : CoreRest W q wi self H Bt Bs Bm Be base baseT) (hb : Below W.heap.size W W') : CoreRest W' q wi self H Bt Bs Bm Be base baseT :=
  ⟨h.1.below hb, h.2.1.move (T := 0) (Moves.below hb) (by decide) (by decide), h.2.2.1.move (T := 0) (Moves.below hb) (by decide), h.2.2.2.move (T := 0) (Moves.below hb) (by decide) (by decide) (by decide)⟩
theorem cells7 {W : World} {b : Nat} {v0 v1 v2 v3 v4 v5 v6 : Value} {t : TypeId} (h : W.heap[b]? = some (.cells #[v0, v1, v2, v3, v4, v5, v6] t (0, 0))) :
    (W.cell? ⟨b, 0, none⟩ = some v0 ∧ W.cell? ⟨b, 1, none⟩ = some v1 ∧ W.cell? ⟨b, 2, none⟩ = some v2 ∧ W.cell? ⟨b, 3, none⟩ = some v3 ∧ W.cell? ⟨b, 4, none⟩ = some v4 ∧ W.cell? ⟨b, 5, none⟩ = some v5 ∧ W.cell? ⟨b, 6, none⟩ = some v6) ∧
    (W.frozen? ⟨b, 0, none⟩ = false ∧ W.frozen? ⟨b, 1, none⟩ = false ∧ W.frozen? ⟨b, 2, none⟩ = false ∧ W.frozen? ⟨b, 3, none⟩ = false ∧ W.frozen? ⟨b, 4, none⟩ = false ∧ W.frozen? ⟨b, 5, none⟩ = false ∧ W.frozen? ⟨b, 6, none⟩ = false) :=
  ⟨⟨cell_at h 0, cell_at h 1, cell_at h 2, cell_at h 3, cell_at h 4, cell_at h 5, cell_at h 6⟩, frozen_at h 0, frozen_at h 1, frozen_at h 2, frozen_at h 3, frozen_at h 4, frozen_at h 5, frozen_at h 6⟩
theorem full_one : Full [(⟨0, 18446744073709551615, 0⟩ : S52)] := full_new


theorem R_other {α : Type} {d : Kd α} {e base : Nat} {w w1 : World} {ok : Nat → Prop} {v : Value} {xs : List α} (h : d.R e w base ok v xs) {b t : Nat} {cs : Array Value} (hb : w.heap[b]? = some (.cells cs t (0, 0))) (ht : t ∉ e :: d.E) (hg : w.grownBy w1 (some b)) : d.R e w1 base ok v xs := by
  refine Kd.R_mono (Kd.R_grown (Kd.R_bound h) hg (fun k hk he => ?_)) (fun k hk => hk.1)
  obtain ⟨_, _, _, q, hq, cells, hc⟩ := hk
  injection he with he
  subst he
  rw [hb] at hc
  injection hc with hc
  injection hc with _ hc _
  exact ht (hc ▸ hq)
def hostS (self pa bo : Int) (vt vp : Value) : Array Value := #[.int .u8 self, vt, .slice none 0 0, .slice none 0 0, .int .i64 pa, .int .i64 bo, vp]
structure Tail (B0 : Nat) (W WT : World) (b : Nat) (sf pa bo : Int) (vt vp : Value) (H : Nat) : Prop where
  blk : WT.heap[b]? = some (.cells (hostS sf pa bo vt vp) 43 (0, 0))
  below : Below B0 W WT
  old : B0 ≤ b
  rt : Kd.R k52 52 WT B0 (fun _ => True) vt [⟨0, 18446744073709551615, 0⟩]
  rp : Kd.R k120 120 WT B0 (fun _ => True) vp (List.replicate H z120)
theorem Tail.le {B0 : Nat} {W WT : World} {b : Nat} {sf pa bo : Int} {vt vp : Value} {H : Nat} (h : Tail B0 W WT b sf pa bo vt vp H) : B0 ≤ WT.heap.size := Nat.le_trans h.old (Nat.le_of_lt (Array.getElem?_eq_some_iff.1 h.blk).1)
theorem Tail.move {B0 : Nat} {W WT W' : World} {b : Nat} {sf pa bo : Int} {vt vp : Value} {H : Nat} (h : Tail B0 W WT b sf pa bo vt vp H) (hB : B0 ≤ WT.heap.size) (hb : Below WT.heap.size WT W') : Tail B0 W W' b sf pa bo vt vp H :=
  ⟨(hb.block b (Array.getElem?_eq_some_iff.1 h.blk).1).trans h.blk, h.below.trans (hb.mono hB), h.old, Kd.R_below h.rt hb, Kd.R_below h.rp hb⟩
theorem tail_new {B0 : Nat} {W w3 : World} {sf pa bo : Int} {vt vp : Value} {H b1 b2 : Nat} (hB : Below B0 W w3) (h0 : B0 ≤ w3.heap.size) (h1 : B0 ≤ b1) (h2 : B0 ≤ b2)
    (ht : Kd.R k52 52 w3 b1 (fun _ => True) vt [⟨0, 18446744073709551615, 0⟩]) (hp : Kd.R k120 120 w3 b2 (fun _ => True) vp (List.replicate H z120)) :
    Tail B0 W (w3.alloc (.cells (hostS sf pa bo vt vp) 43)) w3.heap.size sf pa bo vt vp H :=
  ⟨heap_new w3 _, hB.alloc h0 _, h0, Kd.R_lower (Kd.R_alloc ht _) h1, Kd.R_lower (Kd.R_alloc hp _) h2⟩
theorem tail_set {B0 : Nat} {W w3 : World} {sf pa bo : Int} {vt vp : Value} {H b1 b2 b : Nat} {cs : Array Value} (hh : w3.heap[b]? = some (.cells cs 43 (0, 0))) (hs : cs.size = 7) (hb : B0 ≤ b) (hB : Below B0 W w3) (h1 : B0 ≤ b1) (h2 : B0 ≤ b2)
    (ht : Kd.R k52 52 w3 b1 (fun _ => True) vt [⟨0, 18446744073709551615, 0⟩]) (hp : Kd.R k120 120 w3 b2 (fun _ => True) vp (List.replicate H z120)) :
    Tail B0 W (((((((w3.setCell ⟨b, 0, none⟩ (.int .u8 sf)).setCell ⟨b, 1, none⟩ vt).setCell ⟨b, 2, none⟩ (.slice none 0 0)).setCell ⟨b, 3, none⟩ (.slice none 0 0)).setCell ⟨b, 4, none⟩ (.int .i64 pa)).setCell ⟨b, 5, none⟩ (.int .i64 bo)).setCell ⟨b, 6, none⟩ vp) b sf pa bo vt vp H := by
  have hg := setCells_grown w3 b 0 (hostS sf pa bo vt vp).toList
  have hk := setCells_block (vs := (hostS sf pa bo vt vp).toList) (o := 0) (cur' := hostS sf pa bo vt vp) hh (by simp [hostS, hs]) (by simp [hostS, List.drop_eq_nil_of_le, hs])
  exact ⟨hk, below_sets7 hB hb, hb, Kd.R_lower (R_other ht hh (by decide) hg) h1, Kd.R_lower (R_other hp hh (by decide) hg) h2⟩
theorem then_any {K : Act → World → Prop} {Q : Exit → Act → World → Prop} {e : Exit} {a : Act} {w : World} (h : ∀ W, W = w → Exit.then K Q e a W) : Exit.then K Q e a w := h w rfl
theorem below_same {B : Nat} {W w : World} {p : Addr} {v : Value} (h : Below B W w) (hs : ∀ k : Nat, (w.setCell p v).heap[k]? = w.heap[k]?) : Below B W (w.setCell p v) :=
  ⟨h.os, h.tape, h.output, by rw [show (w.setCell p v).heap.size = w.heap.size by simp [World.setCell]]; exact h.size, fun k hk => (hs k).trans (h.block k hk)⟩
theorem set_same {w : World} {b j : Nat} {cs : Array Value} {t : TypeId} {v : Value} (hh : w.heap[b]? = some (.cells cs t (0, 0))) (hv : cs[j]? = some v) (k : Nat) : (w.setCell ⟨b, j, none⟩ v).heap[k]? = w.heap[k]? := by
  by_cases hk : k = b
  · subst hk
    rw [blk_set hh j v, hh]
    obtain ⟨hl, he⟩ := Array.getElem?_eq_some_iff.1 hv
    rw [show cs.setIfInBounds j v = cs by apply Array.ext_getElem?; intro i; rw [Array.getElem?_setIfInBounds]; split <;> simp_all]
  · exact Below.heap_setCell w ⟨b, j, none⟩ v k hk

end Go.Proofs.YtcpcllfmepfjgaaGreatDoor.core
