/- The contract of audit.Digest. -/
import Derived.Test.YtpekmdpbfjdjkaaFnv
import Derived.Outline
import Derived.BigRegion
import Derived.RegionTactic
namespace Go.Proofs.Ytpekmdpbfjdjkaa.PAuditDigests
open Go.RowKit Go.Proofs.YtpekmdpbfjdjkaaW.PrintWords Go.Proofs.YtpekmdpbfjdjkaaW.PrintLast Go.Proofs.YtpekmdpbfjdjkaaW.PrintMore
set_option linter.unusedVariables false
set_option linter.unusedSimpArgs false

theorem fnv_nil (w : World) : Calls Try.prog 17 #[.slice none 0 0] w fun e w' => e = .returned (.int .u64 14695981039346656037) ∧ Drawn0 w w' :=
  codec_Fnv.calls 1 none 0 [] 14695981039346656037 w ⟨rfl, by simp, fun h => absurd h (by simp)⟩ (Nat.le_refl _) (by
    have := prog_more_f [] (by simp) 14695981039346656037
    simp only [List.length_nil, Nat.zero_add] at this
    simp only [codec_Fnv.f, this, Option.bind_some]
    rfl)

theorem fnv_more (a0 : Int) (A1 : Option Addr) (c1 : Nat) (l1 : List Int) (w : World) (hr1 : Kd.C (Kd.int .u8) w A1 l1.length l1) (hc1 : l1.length ≤ c1) (hl : l1.length < 4611686018427387904) :
    Calls Try.prog 18 #[.int .u64 a0, .slice A1 l1.length c1] w fun e w' => e = .returned (.int .u64 (fnvL a0 l1)) ∧ ∃ m, w' = w.drewN m :=
  (codec_FnvMore.calls (l1.length + 1) a0 A1 c1 l1 _ w hr1 hc1 (prog_more_f l1 hl a0)).mono fun _ _ ⟨h1, h2⟩ => ⟨h1, h2.out⟩

theorem cell_at {w : World} {b : Nat} {cs : Array Value} {t : TypeId} {f : Nat × Nat} (h : w.heap[b]? = some (.cells cs t f)) (j : Nat) : w.cell? ⟨b, j, none⟩ = cs[j]? := by
  simp only [World.cell?, h]
  rfl
theorem heap_new (w : World) (o : Obj) : (w.alloc o).heap[w.heap.size]? = some o := by
  show (w.heap.push o)[w.heap.size]? = _
  simp
theorem after_two {W wr : World} {o p : Obj} (hW : W = ((wr.alloc o).alloc p).drew) : W.heap[wr.heap.size]? = some o ∧ W.heap[wr.heap.size + 1]? = some p ∧ Below wr.heap.size wr W := by
  subst hW
  refine ⟨?_, ?_, ?_⟩
  · exact (Below.heap_alloc (wr.alloc o) p wr.heap.size (by simp)).trans (heap_new wr o)
  · have := heap_new (wr.alloc o) p
    rw [World.size_alloc] at this
    exact this
  · exact (((Below.refl _ _).alloc (Nat.le_refl _) _).alloc (by simp) _).drew
theorem head_len (x : S55) : (headOf x).length = 10 := rfl
/-- A block that holds the numbers, read as a slice. -/
theorem reads_block {w : World} {B : Nat} {zs : List Int} (hn : zs.length ≤ 9223372036854775807) (h : ∀ j u, zs[j]? = some u → w.cell? ⟨B, j, none⟩ = some (.int .u8 u)) : Kd.C (Kd.int .u8) w (some ⟨B, 0, none⟩) zs.length zs :=
  ⟨rfl, hn, fun _ => ⟨_, rfl, fun j p hj => ⟨[.int .u8 p], rfl, rfl, fun i u hu => by
    match i, hu with
    | 0, hu =>
      obtain rfl : Value.int .u8 p = u := by simpa using hu
      rw [add_plain]
      have := h j p hj
      simpa [Kd.int, Kd.scalar] using this⟩⟩⟩

def fpre (l0 : List S55) (i : Nat) : Int := fnvL 14695981039346656037 (bytesAll (l0.take i))
theorem fpre_succ (l0 : List S55) (i : Nat) (h : i < l0.length) : fpre l0 (i + 1) = fnvL (fnvL (fpre l0 i) (headOf (rd_T55 l0 (i : Int)))) (rd_T55 l0 (i : Int)).f1 := by
  unfold fpre
  rw [← fnvL_append, ← fnvL_append, List.take_succ_eq_append_getElem h, bytesAll, List.flatMap_append]
  simp [bytesAll, pairBytes, rd_T55, List.getD_eq_getElem?_getD, h]

set_option maxHeartbeats 1000000 in
set_option maxRecDepth 100000 in
theorem digest_calls (A0 : Option Addr) (c0 : Nat) (l0 : List S55) (w : World) (hr0 : Kd.C k55 w A0 l0.length l0) (hc0 : l0.length ≤ c0) (hlen : l0.length < 4398046511104) (hval : ∀ x ∈ l0, x.f1.length < 4398046511104) :
    Calls Try.prog 6 #[.slice A0 l0.length c0] w fun e w' => e = .returned (.int .u64 (digestL l0)) ∧ Below w.heap.size w w' := by
  have HR0 := Aside0.mk hr0
  have HC0 := Aside0.mk hc0
  have HV := Aside0.mk hval
  clear hr0 hc0 hval
  have HB := Aside0.mk (Below.refl w.heap.size w)
  have hu55 := Try.underlying55
  go_enter Try.func6, Try.ntmps6
  go_wp2_with fail
  refine (fnv_nil _).mono ?_
  rintro e w' ⟨rfl, ⟨n0, rfl⟩⟩
  go_wp2_with fail
  go_loopw [3, 11] (fun v3 v11 wr => ∃ i : Nat, i ≤ l0.length ∧ v11 = .int .i64 i ∧ v3 = .int .u64 (fpre l0 i) ∧ Aside0 (Below w.heap.size w wr)) (fun _ v _ => l0.length - (intOf v).toNat)
  case atStart => exact ⟨0, Nat.zero_le _, rfl, rfl, ⟨pw_below_drewN HB.out _⟩⟩
  case round =>
    obtain ⟨i, hi, rfl, rfl, HB⟩ := hrel
    by_cases hlt : i < l0.length
    · have hlt' : (i : Int) < (l0.length : Int) := by omega
      obtain ⟨ad, A1, c1, e1, hx0, hx1, hl1, hi1⟩ := at_T55 HR0.out (i : Int) (by omega) hlt'
      have hfs := fpre_succ l0 i hlt
      have hfx : (rd_T55 l0 (i : Int)).f1.length < 4398046511104 := HV.out _ (by
        have e : rd_T55 l0 (i : Int) = l0[i] := by simp [rd_T55, List.getD_eq_getElem?_getD, hlt]
        rw [e]
        exact List.getElem_mem hlt)
      cases e1
      simp only [Int.toNat_natCast] at hx0 hx1
      generalize rd_T55 l0 (i : Int) = x at *
      have HFS := Aside0.mk hfs
      clear hfs
      replace hx0 := (HB.out.cell (World.block_lt_of_cell? w _ hx0)).trans hx0
      replace hx1 := (HB.out.cell (World.block_lt_of_cell? w _ hx1)).trans hx1
      have HR1 := Aside0.mk (Kd.C_below hi1 (HB.out.mono (by have := HB.out.size; omega)))
      have HC1 := Aside0.mk hl1
      clear hi1 hl1 hlt'
      go_wp2_with fail
      refine wp_loop_rounds 9 ?_
      iterate 9 (rw [rounds_succ]; go_wp2_with fail)
      go_region
      go_wp2_with fail
      obtain ⟨W, hW⟩ : ∃ W : World, W = ((wr.alloc (.cells #[.int .u64 x.f0, .slice A1 x.f1.length c1] 55)).alloc (.cells #[.int .u8 (x.f0 / 72057594037927936 % 256), .int .u8 (x.f0 / 281474976710656 % 256), .int .u8 (x.f0 / 1099511627776 % 256), .int .u8 (x.f0 / 4294967296 % 256), .int .u8 (x.f0 / 16777216 % 256), .int .u8 (x.f0 / 65536 % 256), .int .u8 (x.f0 / 256 % 256), .int .u8 (x.f0 % 256), .int .u8 ((x.f1.length : Int) / 256 % 256), .int .u8 ((x.f1.length : Int) % 256)] 57)).drew := ⟨_, rfl⟩
      rw [← hW]
      obtain ⟨hb1, hb2, hbw⟩ := after_two hW
      have hB : Below w.heap.size w W := HB.out.trans (hbw.mono HB.out.size)
      have hr : Kd.C (Kd.int .u8) W (some ⟨wr.heap.size + 1, 0, none⟩) (headOf x).length (headOf x) := reads_block (by rw [head_len]; omega) (fun j u hj => by
        rw [cell_at hb2 j]
        match j, hj with
        | 0, hj | 1, hj | 2, hj | 3, hj | 4, hj | 5, hj | 6, hj | 7, hj | 8, hj | 9, hj => simp [headOf] at hj; subst hj; rfl
        | j + 10, hj => simp [headOf] at hj)
      have hx1' : W.cell? ⟨wr.heap.size, 1, none⟩ = some (.slice A1 x.f1.length c1) := by rw [cell_at hb1 1]; rfl
      have HHB := Aside0.mk hB
      have C1 : Aside0 (∀ m, Calls Try.prog 18 #[.int .u64 (fpre l0 i), .slice (some ⟨wr.heap.size + 1, 0, none⟩) 10 10] (W.drewN m) fun e w' => e = .returned (.int .u64 (fnvL (fpre l0 i) (headOf x))) ∧ ∃ m', w' = (W.drewN m).drewN m') := Aside0.mk (fun m => fnv_more (fpre l0 i) (some ⟨wr.heap.size + 1, 0, none⟩) 10 (headOf x) (W.drewN m) (Kd.C_drewN hr _) (by rw [head_len]; omega) (by rw [head_len]; omega))
      have C2 := Aside0.mk (fun m => fnv_more (fnvL (fpre l0 i) (headOf x)) A1 c1 x.f1 (W.drewN m) (Kd.C_drewN (Kd.C_below HR1.out hbw) _) HC1.out (by omega))
      clear hb1 hb2 hB hr hW hbw
      go_quiet (first | (go_at_call 18; with_reducible exact Calls.quiet_of (C1.out _)) | (go_at_call 18; with_reducible exact Calls.quiet_of (C2.out _)))
      go_wp2_with fail
      go_roundw
      case rel => exact ⟨i + 1, by omega, by go_num, by rw [HFS.out], ⟨pw_below_drewN HHB.out _⟩⟩
      case measure => simp [intOf]; omega
    · go_wp2_with fail
      go_ret
      obtain rfl : i = l0.length := by omega
      exact ⟨by simp [fpre, digestL], HB.out⟩
end Go.Proofs.Ytpekmdpbfjdjkaa.PAuditDigests
