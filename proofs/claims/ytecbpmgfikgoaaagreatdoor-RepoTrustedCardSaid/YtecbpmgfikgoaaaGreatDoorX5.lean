/- Walks of functions 180 181 182 170: what each call gives back, and that it writes nothing of anybody else's. Conditions: as each theorem says. -/
import Derived.Test.YtecbpmgfikgoaaaGreatDoorX4
import Derived.Test.YtecbpmgfikgoaaaGreatDoorV4
set_option linter.unusedVariables false
set_option linter.unusedSimpArgs false
set_option maxRecDepth 8000
set_option maxHeartbeats 4000000
namespace Go.Proofs.YtecbpmgfikgoaaaGreatDoor
open Go Go.RowKit
variable {G w : World} {M : List Chunk} {I : Imm}

theorem C83i {v : Value} {l : List UInt8} (hv : SlB I v l) (hl : l.length ≤ 2 ^ 40) (hs : Sat G M I w) : Calls Tryz.prog 83 #[v] w (Ret fun r w' => r = aggL (bcells (sha l)) ∧ Sat G M I w') := C83 hl hv.toM hs
theorem C83o {v : Value} {l : List UInt8} {cs : List Value} {L : List Chunk} (hc : cs = bcells l) (ho : OwnS 5 1 v cs L) (hl : l.length ≤ 2 ^ 40) (hs : Sat G (L ++ M) I w) : Calls Tryz.prog 83 #[v] w (Ret fun r w' => r = aggL (bcells (sha l)) ∧ Sat G M I w') := by
  subst hc
  exact Calls.ret_mono (C83 (M := L ++ M) hl (ho.toM (by rw [length_bcells, Nat.mul_one]) (by decide)) hs) fun r w1 h => ⟨h.1, h.2.drop⟩
theorem rdMem {bb off p k c : Nat} {cs r : List Value} (h : Mem G M I bb off cs) (hp : part cs p k = r) (hl : p + k ≤ cs.length) (hc : k ≤ c) (hs : Sat G M I w) : RdW w 1 (.slice (some ⟨bb, off + p, none⟩) k c) k r := by
  have hr : r.length = k := by rw [← hp, part, List.length_take, List.length_drop]; omega
  obtain ⟨d, T, fr, h1, h2, h3⟩ := h.sub hp hl w hs
  refine ⟨by rw [hr, Nat.mul_one], _, c, rfl, hc, .inr ⟨bb, off + p, d, T, fr, rfl, h1, by rw [hr] at h2; omega, ?_⟩⟩
  rw [hr] at h3
  rw [Nat.mul_one]
  exact h3
theorem part_bc (l : List UInt8) (p k : Nat) : part (bcells l) p k = bcells ((l.drop p).take k) := by simp [part, bcells, List.map_take, List.map_drop]
theorem part_ends {f : Nat → List UInt8} (h : ∀ i, (f i).length = 32) : ∀ {m i : Nat}, i < m → part (bcells (endsL f m)) (i * 32) 32 = bcells (f i)
  | 0, i, hi => by omega
  | m + 1, i, hi => by
    have hl := length_endsL h m
    rw [endsL_succ, bcells_append]
    by_cases hm : i < m
    · rw [part, List.drop_append_of_le_length (by rw [length_bcells]; omega), List.take_append_of_le_length (by rw [List.length_drop, length_bcells]; omega)]
      exact part_ends h hm
    · obtain rfl : i = m := by omega
      rw [part, List.drop_left' (by rw [length_bcells]; omega), List.take_of_length_le (by rw [length_bcells, h]; exact Nat.le_refl _)]
/-- What a signature's chains lead to. -/
def recH (f : Nat → List UInt8) (l : List UInt8) (i : Nat) : List UInt8 := walkH (f i) i (dig (sha l) i) (3 - dig (sha l) i)
theorem length_recH {f : Nat → List UInt8} (h : ∀ i, (f i).length = 32) (l : List UInt8) (i : Nat) : (recH f l i).length = 32 := length_walkH (h i) ..
theorem walkH_walk (h : List UInt8) (c f a b : Nat) : walkH (walkH h c f a) c (f + a) b = walkH h c f (a + b) := by
  induction b with
  | zero => rw [walkH_zero]; rfl
  | succ b ih => rw [walkH_succ, ih, Nat.add_assoc, ← walkH_succ]; rfl
theorem recH_chain (seed l : List UInt8) (n i : Nat) : recH (chainH seed n l) l i = endH seed n i := by
  have := walkH_walk (secretH seed n i) i 0 (dig (sha l) i) (3 - dig (sha l) i)
  have h3 := dig_le (sha l) i
  rw [show dig (sha l) i + (3 - dig (sha l) i) = 3 by omega, Nat.zero_add] at this
  exact this
theorem endsL_congr {f g : Nat → List UInt8} (h : ∀ i, f i = g i) (m : Nat) : endsL f m = endsL g m := by rw [funext h]
theorem recH_pub (seed l : List UInt8) (n : Nat) : sha ([2] ++ endsL (recH (chainH seed n l) l) 36) = pubH seed n := by
  rw [endsL_congr (recH_chain seed l n)]
  rfl

theorem C180 {p : Value} {l : List UInt8} (hl : l.length ≤ 2 ^ 40) (hp : SlM G M I 1 p l.length (bcells l)) (hs : Sat G M I w) : Calls Tryz.prog 180 #[p] w (Ret fun r w' => r = aggL (dcells (sha l) 36) ∧ Sat G M I w') := by
  refine enter1 Tryz.func180 rfl Tryz.ntmps180 rfl ?_
  repeat first | apply W.seq | apply W.region
  refine RL.e rfl rfl rfl (EF_allocA rfl zr187 hs) ?_
  rintro r1 w1 ⟨b2, rfl, hs1⟩
  refine RL.done (nxt ?_)
  repeat first | apply W.seq | apply W.region
  refine RL.e rfl rfl rfl (EF_allocA rfl zr187 hs1) ?_
  rintro r2 w2 ⟨b3, rfl, hs2⟩
  refine RL.done (nxt ?_)
  repeat first | apply W.seq | apply W.region
  refine RL.p rfl rfl rfl (PV_move rfl rfl) ?_
  refine RL.e rfl rfl rfl (K1 rfl fn83 rfl (C83 hl (hp.mono fun _ h => h.tail.tail) hs2)) ?_
  rintro r3 w3 ⟨rfl, hs3⟩
  refine RL.e rfl rfl rfl (EF_allocA rfl zr24 hs3) ?_
  rintro r4 w4 ⟨b4, rfl, hs4⟩
  refine RL.e0 rfl rfl (EF_storeA (cs := zl24) rfl rfl rfl sz24 (by rw [length_bcells]; exact length_sha _) (one1_bcells _) hs4 (by first | exact u0 | exact u1 | exact u2 | exact u3 | exact u4 | exact u5 | exact u0.app | exact u1.app | exact u2.app | exact u3.app)) ?_
  rintro r5 w5 hs5
  refine RL.done (nxt ?_)
  repeat first | apply W.seq | apply W.region
  refine RL.p rfl rfl rfl (PV_assign rfl rfl) ?_
  refine RL.done (nxt ?_)
  repeat first | apply W.seq | apply W.region
  refine RL.p rfl rfl rfl (PV_assign rfl rfl) ?_
  refine RL.done (nxt ?_)
  repeat first | apply W.seq | apply W.region
  refine W.block ?_
  repeat first | apply W.seq | apply W.region
  refine W.loop (F := fun i : Nat => [(6, .int .i64 (i : Int)), (5, .int .i64 (lackH (sha l) i : Int)), (4, ptr b4 0), (3, ptr b3 0), (2, ptr b2 0)]) (J := fun i w => i ≤ 32 ∧ Sat G ((b4, bcells (sha l), 24) :: (b3, dcells (sha l) i, 187) :: (b2, zl187, 187) :: M) I w) (m := fun i => 32 - i) 0 (by repeat first | exact Sub.nil | refine Sub.cons rfl ?_) ⟨by omega, by rw [dcells_zero]; exact hs5⟩ ?_
  rintro i w6 ⟨hi, hs6⟩
  repeat first | apply W.seq | apply W.region
  refine RL.p rfl rfl rfl (PV_move rfl rfl) ?_
  refine RL.p rfl rfl rfl (PV_lss rfl rfl rfl) ?_
  refine RL.done (nxt ?_)
  repeat first | apply W.seq | apply W.region
  refine W.cond rfl (fun h1 => ?_) (fun h1 => ?_)
  ·
    have hi1 : i < 32 := by have := of_decide_eq_true h1; omega
    have hlk := lackH_le (sha l) i
    have hd3 := dig_le (sha l) i
    have hdg : dig (sha l) i = digH (sha l) i := by simp [dig, hi1]
    refine  W.skip (nxt ?_)
    repeat first | apply W.seq | apply W.region
    refine W.block ?_
    repeat first | apply W.seq | apply W.region
    refine RL.p rfl rfl rfl (PV_move rfl rfl) ?_
    refine RL.p rfl rfl rfl (PV_move rfl rfl) ?_
    refine RL.p rfl rfl rfl (PV_quoN (m := i) (d := 4) rfl rfl rfl rfl rfl (by decide) (by omega)) ?_
    refine RL.p rfl rfl rfl (PV_indexArr1 (i / 4) rfl Tryz.underlying24 sz5 rfl rfl rfl (by omega)) ?_
    refine RL.s rfl rfl rfl (PV_loadM1 rfl ag5 rfl m0 (bc_get (by rw [length_sha]; omega))) hs6 ?_
    refine RL.p rfl rfl rfl (PV_move rfl rfl) ?_
    refine RL.p rfl rfl rfl (PV_remN (m := i) (d := 4) rfl rfl rfl rfl rfl (by decide)) ?_
    refine RL.p rfl rfl rfl (PV_mulE (r := ((2 * (i % 4) : Nat) : Int)) rfl rfl rfl (by omega) (by omega)) ?_
    refine RL.p rfl rfl rfl (PV_subE (r := ((6 - 2 * (i % 4) : Nat) : Int)) rfl rfl rfl (by omega) (by omega)) ?_
    refine RL.p rfl rfl rfl (PV_conv_i64_u64 (m := 6 - 2 * (i % 4)) rfl Tryz.underlying3 Tryz.underlying113 rfl rfl (by omega)) ?_
    refine RL.p rfl rfl rfl (PV_shrN (m := (gb (sha l) (i / 4)).toNat) (j := 6 - 2 * (i % 4)) rfl rfl rfl rfl rfl (by show _ < 8; omega)) ?_
    refine RL.p rfl rfl rfl (PV_convN (m := (gb (sha l) (i / 4)).toNat / 2 ^ (6 - 2 * (i % 4))) rfl Tryz.underlying5 Tryz.underlying3 rfl rfl (Nat.lt_of_le_of_lt (Nat.div_le_self _ _) (Nat.lt_trans (gb (sha l) (i / 4)).toNat_lt (by decide)))) ?_
    refine RL.p rfl rfl rfl (PV_and3 (m := (gb (sha l) (i / 4)).toNat / 2 ^ (6 - 2 * (i % 4))) rfl rfl rfl rfl (Nat.lt_of_le_of_lt (Nat.div_le_self _ _) (Nat.lt_trans (gb (sha l) (i / 4)).toNat_lt (by decide)))) ?_
    refine RL.p rfl rfl rfl (PV_indexArr1 i rfl Tryz.underlying187 sz3 rfl rfl rfl (by omega)) ?_
    refine RL.e0 rfl rfl (EF_storeC (cs := dcells (sha l) i) rfl rfl rfl sz3 rfl (by rw [length_dcells]; omega) (dcells_set (by omega) (by rw [hdg]; rfl)) hs6 (by first | exact u0 | exact u1 | exact u2 | exact u3 | exact u4 | exact u5 | exact u0.app | exact u1.app | exact u2.app | exact u3.app)) ?_
    rintro r7 w7 hs7
    refine RL.done (nxt ?_)
    repeat first | apply W.seq | apply W.region
    refine RL.p rfl rfl rfl (PV_move rfl rfl) ?_
    refine RL.p rfl rfl rfl (PV_addE (r := ((lackH (sha l) i + 3 : Nat) : Int)) rfl rfl rfl (by omega) (by omega)) ?_
    refine RL.p rfl rfl rfl (PV_move rfl rfl) ?_
    refine RL.p rfl rfl rfl (PV_indexArr1 i rfl Tryz.underlying187 sz3 rfl rfl rfl (by omega)) ?_
    refine RL.s rfl rfl rfl (PV_loadM1 rfl ag3 rfl m1 (dcells_get (by omega) (by omega))) hs7 ?_
    refine RL.p rfl rfl rfl (PV_subE (r := (lackH (sha l) (i + 1) : Int)) rfl rfl rfl (by simp only [lackH, hdg] at *; omega) (by simp only [lackH]; omega)) ?_
    refine RL.p rfl rfl rfl (PV_assign rfl rfl) ?_
    refine RL.done (nxt ?_)
    repeat first | apply W.seq | apply W.region
    refine RL.p rfl rfl rfl (PV_move rfl rfl) ?_
    refine RL.p rfl rfl rfl (PV_add rfl rfl rfl (by omega)) ?_
    refine RL.p rfl rfl rfl (PV_assign rfl rfl) ?_
    refine RL.done (round_end (i + 1) ?_ ?_ ?_)
    · repeat first | exact Sub.nil | refine Sub.cons rfl ?_
    · exact ⟨by omega, hs7⟩
    · first | omega | (dsimp only; omega)
  repeat first | apply W.seq | apply W.region
  refine  W.exit (nxt ?_)
  obtain rfl : i = 32 := by have := of_decide_eq_false h1; omega
  repeat first | apply W.seq | apply W.region
  refine RL.p rfl rfl rfl (PV_assign rfl rfl) ?_
  refine RL.done (nxt ?_)
  repeat first | apply W.seq | apply W.region
  refine W.block ?_
  repeat first | apply W.seq | apply W.region
  refine W.loop (F := fun j : Nat => [(7, .int .i64 ((32 + j : Nat) : Int)), (5, .int .i64 (lk (sha l) j : Int)), (3, ptr b3 0), (2, ptr b2 0)]) (J := fun j w => j ≤ 4 ∧ Sat G ((b4, bcells (sha l), 24) :: (b3, dcells (sha l) (32 + j), 187) :: (b2, zl187, 187) :: M) I w) (m := fun j => 4 - j) 0 (by repeat first | exact Sub.nil | refine Sub.cons rfl ?_) ⟨by omega, hs6⟩ ?_
  rintro j w7 ⟨hj, hs7⟩
  repeat first | apply W.seq | apply W.region
  refine RL.p rfl rfl rfl (PV_move rfl rfl) ?_
  refine RL.p rfl rfl rfl (PV_lss rfl rfl rfl) ?_
  refine RL.done (nxt ?_)
  repeat first | apply W.seq | apply W.region
  refine W.cond rfl (fun h2 => ?_) (fun h2 => ?_)
  ·
    have hi1 : 32 + j < 36 := by have := of_decide_eq_true h2; omega
    have hq := lk_le (sha l) j
    have hdg : dig (sha l) (32 + j) = lk (sha l) j % 4 := by rw [lk_eq, dig, if_neg (by omega), Nat.add_sub_cancel_left]
    refine  W.skip (nxt ?_)
    repeat first | apply W.seq | apply W.region
    refine W.block ?_
    repeat first | apply W.seq | apply W.region
    refine RL.p rfl rfl rfl (PV_move rfl rfl) ?_
    refine RL.p rfl rfl rfl (PV_move rfl rfl) ?_
    refine RL.p rfl rfl rfl (PV_and3 (m := lk (sha l) j) rfl rfl rfl rfl (by omega)) ?_
    refine RL.p rfl rfl rfl (PV_indexArr1 (32 + j) rfl Tryz.underlying187 sz3 rfl rfl rfl (by omega)) ?_
    refine RL.e0 rfl rfl (EF_storeC (cs := dcells (sha l) (32 + j)) rfl rfl rfl sz3 rfl (by rw [length_dcells]; omega) (dcells_set (by omega) (by rw [hdg])) hs7 (by first | exact u0 | exact u1 | exact u2 | exact u3 | exact u4 | exact u5 | exact u0.app | exact u1.app | exact u2.app | exact u3.app)) ?_
    rintro r8 w8 hs8
    refine RL.done (nxt ?_)
    repeat first | apply W.seq | apply W.region
    refine RL.p rfl rfl rfl (PV_move rfl rfl) ?_
    refine RL.p rfl rfl rfl (PV_shrN (m := lk (sha l) j) (j := 2) rfl rfl rfl rfl rfl (by decide)) ?_
    refine RL.p rfl rfl rfl (PV_assign rfl rfl) ?_
    refine RL.done (nxt ?_)
    repeat first | apply W.seq | apply W.region
    refine RL.p rfl rfl rfl (PV_move rfl rfl) ?_
    refine RL.p rfl rfl rfl (PV_add rfl rfl rfl (by omega)) ?_
    refine RL.p rfl rfl rfl (PV_assign rfl rfl) ?_
    refine RL.done (round_end (j + 1) ?_ ?_ ?_)
    · repeat first | exact Sub.nil | refine Sub.cons rfl ?_
    · exact ⟨by omega, hs8⟩
    · first | omega | (dsimp only; omega)
  repeat first | apply W.seq | apply W.region
  refine  W.exit (nxt ?_)
  obtain rfl : j = 4 := by have := of_decide_eq_false h2; omega
  repeat first | apply W.seq | apply W.region
  refine RL.s rfl rfl rfl (PV_loadMA rfl ag187 sz187 rfl (by first | exact m0 | exact m1 | exact m2 | exact m3 | exact m4 | exact m5 | exact mapp m0 | exact mapp m1 | exact mapp m2 | exact mapp m3) (by rw [length_dcells]; decide) (part_whole (length_dcells _ _))) hs7 ?_
  refine RL.e0 rfl rfl (EF_storeA (cs := zl187) rfl rfl rfl sz187 (length_dcells _ _) (one1_dcells _ _) hs7 (by first | exact u0 | exact u1 | exact u2 | exact u3 | exact u4 | exact u5 | exact u0.app | exact u1.app | exact u2.app | exact u3.app)) ?_
  rintro r8 w8 hs8
  refine RL.done (nxt ?_)
  repeat first | apply W.seq | apply W.region
  exact W.ret (ret_cell rfl rfl (ldA ag187 sz187 hs8 (by first | exact m0 | exact m1 | exact m2 | exact m3 | exact m4 | exact m5 | exact mapp m0 | exact mapp m1 | exact hm) (length_dcells _ _)) ⟨_, rfl, rfl, hs8.tail.tail.tail⟩)

theorem C181 {h : List UInt8} {ch f t : Nat} (h32 : h.length = 32) (ht : t ≤ 3) (hf : f ≤ 3) (hs : Sat G M I w) : Calls Tryz.prog 181 #[aggL (bcells h), .int .i64 (ch : Int), .int .i64 (f : Int), .int .i64 (t : Int)] w (Ret fun r w' => r = aggL (bcells (walkH h ch f (t - f))) ∧ Sat G M I w') := by
  refine enter4 Tryz.func181 rfl Tryz.ntmps181 rfl ?_
  repeat first | apply W.seq | apply W.region
  refine RL.e rfl rfl rfl (EF_boxA rfl rfl hs) ?_
  rintro r1 w1 ⟨b4, rfl, hs1⟩
  refine RL.e rfl rfl rfl (EF_allocA rfl zr24 hs1) ?_
  rintro r2 w2 ⟨b8, rfl, hs2⟩
  refine RL.done (nxt ?_)
  repeat first | apply W.seq | apply W.region
  refine RL.p rfl rfl rfl (PV_move rfl rfl) ?_
  refine RL.p rfl rfl rfl (PV_maxE (r := ((f + 0 : Nat) : Int)) rfl rfl rfl (by split <;> omega)) ?_
  refine RL.p rfl rfl rfl (PV_assign rfl rfl) ?_
  refine RL.done (nxt ?_)
  repeat first | apply W.seq | apply W.region
  refine W.block ?_
  repeat first | apply W.seq | apply W.region
  refine W.loop (F := fun k : Nat => [(9, .int .i64 ((f + k : Nat) : Int)), (4, ptr b4 0), (8, ptr b8 0), (1, .int .i64 (ch : Int)), (3, .int .i64 (t : Int))]) (J := fun k w => (f + k ≤ t ∨ k = 0) ∧ Sat G ((b8, zl24, 24) :: (b4, bcells (walkH h ch f k), 24) :: M) I w) (m := fun k => t - f - k) 0 (by repeat first | exact Sub.nil | refine Sub.cons rfl ?_) ⟨.inr rfl, by rw [walkH_zero]; exact hs2⟩ ?_
  rintro k w3 ⟨hk, hs3⟩
  repeat first | apply W.seq | apply W.region
  refine RL.p rfl rfl rfl (PV_move rfl rfl) ?_
  refine RL.p rfl rfl rfl (PV_move rfl rfl) ?_
  refine RL.p rfl rfl rfl (PV_minE (r := (t : Int)) rfl rfl rfl (by split <;> omega)) ?_
  refine RL.p rfl rfl rfl (PV_lss rfl rfl rfl) ?_
  refine RL.done (nxt ?_)
  repeat first | apply W.seq | apply W.region
  refine W.cond rfl (fun h1 => ?_) (fun h1 => ?_)
  ·
    have hk1 : f + k < t := by have := of_decide_eq_true h1; omega
    have hw32 : (walkH h ch f k).length = 32 := length_walkH h32 ..
    refine  W.skip (nxt ?_)
    repeat first | apply W.seq | apply W.region
    refine W.block ?_
    repeat first | apply W.seq | apply W.region
    refine RL.p rfl rfl rfl (PV_move rfl rfl) ?_
    refine RL.p rfl rfl rfl (PV_conv_i64_u8 rfl Tryz.underlying3 Tryz.underlying5 rfl rfl) ?_
    refine RL.p rfl rfl rfl (PV_move rfl rfl) ?_
    refine RL.p rfl rfl rfl (PV_conv_i64_u8 rfl Tryz.underlying3 Tryz.underlying5 rfl rfl) ?_
    refine RL.e rfl rfl rfl (EF_bs3c rfl el60 rfl rfl rfl rfl rfl rfl hs3) ?_
    rintro r4 w4 ⟨b22, rfl, hs4⟩
    refine RL.p rfl rfl rfl (PV_sliceArr rfl Tryz.underlying24 rfl sz5) ?_
    refine RL.e rfl rfl rfl (EF_append (l := 3) (olds := bcells [1, UInt8.ofNat ch, UInt8.ofNat (f + k)]) rfl el60 rfl rfl (OwnS.lit (m := 3) rfl) rfl (rdW (m := 32) hs4 m2 (by rw [length_bcells, hw32]; rfl) (Nat.le_refl _)) (one1_bcells _) (by omega) (by decide) hs4) ?_
    rintro r5 w5 ⟨L5, ho5, hs5⟩
    refine RL.e rfl rfl rfl (K1 rfl fn83 rfl (C83o (l := [1, UInt8.ofNat ch, UInt8.ofNat (f + k)] ++ walkH h ch f k) (by simp [bcells]) ho5 (by simp [hw32]) hs5)) ?_
    rintro r6 w6 ⟨rfl, hs6⟩
    refine RL.e0 rfl rfl (EF_storeA (cs := bcells (walkH h ch f k)) rfl rfl rfl (by rw [length_bcells, hw32]; exact sz24) (by rw [length_bcells, length_bcells, length_sha, hw32]) (one1_bcells _) hs6 (by first | exact u0 | exact u1 | exact u2 | exact u3 | exact u4 | exact u5 | exact u0.app | exact u1.app | exact u2.app | exact u3.app)) ?_
    rintro r7 w7 hs7
    refine RL.done (nxt ?_)
    repeat first | apply W.seq | apply W.region
    refine RL.p rfl rfl rfl (PV_move rfl rfl) ?_
    refine RL.p rfl rfl rfl (PV_add rfl rfl rfl (by omega)) ?_
    refine RL.p rfl rfl rfl (PV_assign rfl rfl) ?_
    refine RL.done (round_end (k + 1) ?_ ?_ ?_)
    · repeat first | exact Sub.nil | refine Sub.cons rfl ?_
    · exact ⟨.inl (by omega), by rw [walkH_succ]; exact hs7⟩
    · first | omega | (dsimp only; omega)
  repeat first | apply W.seq | apply W.region
  refine  W.exit (nxt ?_)
  obtain rfl : k = t - f := by have := of_decide_eq_false h1; omega
  have hw32 : (walkH h ch f (t - f)).length = 32 := length_walkH h32 ..
  repeat first | apply W.seq | apply W.region
  refine RL.s rfl rfl rfl (PV_loadMA rfl ag24 sz24 rfl (by first | exact m0 | exact m1 | exact m2 | exact m3 | exact m4 | exact m5 | exact mapp m0 | exact mapp m1 | exact mapp m2 | exact mapp m3) (by rw [length_bcells, hw32]; decide) (part_whole (by rw [length_bcells, hw32]))) hs3 ?_
  refine RL.e0 rfl rfl (EF_storeA (cs := zl24) rfl rfl rfl sz24 (by rw [length_bcells, hw32]; rfl) (one1_bcells _) hs3 (by first | exact u0 | exact u1 | exact u2 | exact u3 | exact u4 | exact u5 | exact u0.app | exact u1.app | exact u2.app | exact u3.app)) ?_
  rintro r4 w4 hs4
  refine RL.done (nxt ?_)
  repeat first | apply W.seq | apply W.region
  exact W.ret (ret_cell rfl rfl (ldA ag24 sz24 hs4 (by first | exact m0 | exact m1 | exact m2 | exact m3 | exact m4 | exact m5 | exact mapp m0 | exact mapp m1 | exact hm) (by rw [length_bcells]; exact hw32)) ⟨_, rfl, rfl, hs4.tail.tail⟩)

theorem C182 {m : Nat} {v : Value} {l : List UInt8} (h0 : 0 < m) (hl : l.length = m * 32) (hm : m ≤ 2 ^ 20) (hv : SlM G M I 32 v m (bcells l)) (hs : Sat G M I w) : Calls Tryz.prog 182 #[v] w (Ret fun r w' => r = aggL (bcells (sha ([2] ++ l))) ∧ Sat G M I w') := by
  obtain ⟨b, off, c, rfl, hc, hmem⟩ := hv.elem h0
  refine enter1 Tryz.func182 rfl Tryz.ntmps182 rfl ?_
  repeat first | apply W.seq | apply W.region
  refine RL.e rfl rfl rfl (EF_allocA rfl zr24 hs) ?_
  rintro r1 w1 ⟨b2, rfl, hs1⟩
  refine RL.done (nxt ?_)
  repeat first | apply W.seq | apply W.region
  refine RL.e rfl rfl rfl (EF_bs1c rfl el60 rfl rfl hs1) ?_
  rintro r2 w2 ⟨b5, rfl, hs2⟩
  refine RL.p rfl rfl rfl (PV_assign rfl rfl) ?_
  refine RL.done (nxt ?_)
  repeat first | apply W.seq | apply W.region
  refine RL.p rfl rfl rfl (PV_assign rfl rfl) ?_
  refine RL.done (nxt ?_)
  repeat first | apply W.seq | apply W.region
  refine W.block ?_
  repeat first | apply W.seq | apply W.region
  refine W.loop (F := fun z : Nat × Value => [(4, .int .i64 (z.1 : Int)), (3, z.2), (2, ptr b2 0), (0, .slice (some ⟨b, off, none⟩) m c)]) (J := fun z w => z.1 ≤ m ∧ ∃ L, OwnS 5 1 z.2 (bcells ([2] ++ l.take (z.1 * 32))) L ∧ Sat G (L ++ (b2, zl24, 24) :: M) I w) (m := fun z => m - z.1) (0, .slice (some ⟨b5, 0, none⟩) 1 1) (by repeat first | exact Sub.nil | refine Sub.cons rfl ?_) ⟨by omega, [(b5, bcells [2], 5)], OwnS.lit (m := 1) rfl, hs2⟩ ?_
  rintro ⟨i, v⟩ w3 ⟨hi, L, ho, hs3⟩
  dsimp only at hi ho hs3
  have hll : ([2] ++ l.take (i * 32)).length = 1 + i * 32 := by rw [List.length_append, List.length_take]; simp; omega
  repeat first | apply W.seq | apply W.region
  refine RL.p rfl rfl rfl (PV_move rfl rfl) ?_
  refine RL.p rfl rfl rfl (PV_move rfl rfl) ?_
  refine RL.p rfl rfl rfl (PV_len rfl Tryz.underlying37 rfl) ?_
  refine RL.p rfl rfl rfl (PV_lss rfl rfl rfl) ?_
  refine RL.done (nxt ?_)
  repeat first | apply W.seq | apply W.region
  refine W.cond rfl (fun h1 => ?_) (fun h1 => ?_)
  ·
    have hi1 : i < m := by have := of_decide_eq_true h1; dsimp only at this; omega
    refine W.skip (nxt ?_)
    repeat first | apply W.seq | apply W.region
    refine W.block ?_
    repeat first | apply W.seq | apply W.region
    refine RL.p rfl rfl rfl (PV_move rfl rfl) ?_
    refine RL.p rfl rfl rfl (PV_move rfl rfl) ?_
    refine RL.p rfl rfl rfl (PV_move rfl rfl) ?_
    refine RL.p rfl rfl rfl (PV_indexAddr rfl Tryz.underlying37 sz24 rfl rfl rfl (by omega)) ?_
    refine RL.p rfl rfl rfl (PV_sliceArr rfl Tryz.underlying24 rfl sz5) ?_
    refine RL.e rfl rfl rfl (EF_append (l := 1 + i * 32) (m := 32) (news := bcells ((l.drop (i * 32)).take 32)) rfl el60 rfl rfl ho (by rw [length_bcells, hll]; exact (Nat.mul_one _).symm) (rdMem (hmem.mono fun _ h => h.drop.tail) (part_bc ..) (by rw [length_bcells]; omega) (Nat.le_refl _) hs3) (one1_bcells _) (by omega) (by decide) hs3) ?_
    rintro r4 w4 ⟨L4, ho4, hs4⟩
    refine RL.p rfl rfl rfl (PV_assign rfl rfl) ?_
    refine RL.done (nxt ?_)
    repeat first | apply W.seq | apply W.region
    refine RL.p rfl rfl rfl (PV_move rfl rfl) ?_
    refine RL.p rfl rfl rfl (PV_add rfl rfl rfl (by omega)) ?_
    refine RL.p rfl rfl rfl (PV_assign rfl rfl) ?_
    refine RL.done (round_end (i + 1, r4) ?_ ?_ ?_)
    · repeat first | exact Sub.nil | refine Sub.cons rfl ?_
    · exact ⟨by dsimp only; omega, L4, by rw [Nat.add_mul, Nat.one_mul, List.take_add, ← List.append_assoc, bcells_append]; exact ho4, hs4⟩
    · first | omega | (dsimp only; omega)
  repeat first | apply W.seq | apply W.region
  obtain rfl : i = m := by have := of_decide_eq_false h1; dsimp only at this; omega
  rw [List.take_of_length_le (by omega)] at ho
  refine  W.exit (nxt ?_)
  repeat first | apply W.seq | apply W.region
  refine RL.p rfl rfl rfl (PV_move rfl rfl) ?_
  refine RL.e rfl rfl rfl (K1 rfl fn83 rfl (C83o rfl ho (by rw [List.length_append, hl]; simp; omega) hs3)) ?_
  rintro r4 w4 ⟨rfl, hs4⟩
  refine RL.e0 rfl rfl (EF_storeA (cs := zl24) rfl rfl rfl sz24 (by rw [length_bcells]; exact length_sha _) (one1_bcells _) hs4 (by first | exact u0 | exact u1 | exact u2 | exact u3 | exact u4 | exact u5 | exact u0.app | exact u1.app | exact u2.app | exact u3.app)) ?_
  rintro r5 w5 hs5
  refine RL.done (nxt ?_)
  repeat first | apply W.seq | apply W.region
  exact W.ret (ret_cell rfl rfl (ldA ag24 sz24 hs5 (by first | exact m0 | exact m1 | exact m2 | exact m3 | exact m4 | exact m5 | exact mapp m0 | exact mapp m1 | exact hm) (by rw [length_bcells]; exact length_sha _)) ⟨_, rfl, rfl, hs5.tail⟩)

theorem C170 {p cv : Value} {l : List UInt8} {f : Nat → List UInt8} (h32 : ∀ i, (f i).length = 32) (hl : l.length ≤ 2 ^ 40) (hp : SlM G M I 1 p l.length (bcells l)) (hc : SlI I 32 cv 36 (bcells (endsL f 36))) (hs : Sat G M I w) : Calls Tryz.prog 170 #[p, cv] w (Ret fun r w' => r = .tuple #[aggL (bcells (sha ([2] ++ endsL (recH f l) 36))), .bool true] ∧ Sat G M I w') := by
  obtain ⟨b, off, c, rfl, hcc, hmem⟩ := hc.mem (by decide)
  refine enter2 Tryz.func170 rfl Tryz.ntmps170 rfl ?_
  repeat first | apply W.seq | apply W.region
  refine RL.e rfl rfl rfl (EF_allocA rfl zr24 hs) ?_
  rintro r1 w1 ⟨b4, rfl, hs1⟩
  refine RL.p rfl rfl rfl (PV_assign rfl rfl) ?_
  refine RL.done (nxt ?_)
  repeat first | apply W.seq | apply W.region
  refine RL.p rfl rfl rfl (PV_move rfl rfl) ?_
  refine RL.p rfl rfl rfl (PV_len rfl Tryz.underlying37 rfl) ?_
  refine RL.p rfl rfl rfl (PV_nei rfl rfl rfl) ?_
  refine RL.done (nxt ?_)
  repeat first | apply W.seq | apply W.region
  refine W.cond rfl (fun h1 => ?_) (fun h1 => ?_)
  · cases h1
  refine W.skip (nxt ?_)
  repeat first | apply W.seq | apply W.region
  refine RL.p rfl rfl rfl (PV_move rfl rfl) ?_
  refine RL.e rfl rfl rfl (K1 rfl fn180 rfl (C180 hl (hp.mono fun _ h => h.tail) hs1)) ?_
  rintro r2 w2 ⟨rfl, hs2⟩
  refine RL.e rfl rfl rfl (EF_allocA rfl zr187 hs2) ?_
  rintro r3 w3 ⟨b6, rfl, hs3⟩
  refine RL.e0 rfl rfl (EF_storeA (cs := zl187) rfl rfl rfl sz187 (length_dcells _ _) (one1_dcells _ _) hs3 (by first | exact u0 | exact u1 | exact u2 | exact u3 | exact u4 | exact u5 | exact u0.app | exact u1.app | exact u2.app | exact u3.app)) ?_
  rintro r4 w4 hs4
  refine RL.done (nxt ?_)
  repeat first | apply W.seq | apply W.region
  refine RL.p rfl rfl rfl (PV_assign rfl rfl) ?_
  refine RL.done (nxt ?_)
  repeat first | apply W.seq | apply W.region
  refine RL.p rfl rfl rfl (PV_assign rfl rfl) ?_
  refine RL.done (nxt ?_)
  repeat first | apply W.seq | apply W.region
  refine W.block ?_
  repeat first | apply W.seq | apply W.region
  refine W.loop (F := fun z : Nat × Value => [(8, .int .i64 (z.1 : Int)), (7, z.2), (6, ptr b6 0), (4, ptr b4 0), (5, .bool false), (1, .slice (some ⟨b, off, none⟩) 36 c)]) (J := fun z w => z.1 ≤ 36 ∧ ∃ L, OwnS 24 32 z.2 (bcells (endsL (recH f l) z.1)) L ∧ Sat G (L ++ (b6, dcells (sha l) 36, 187) :: (b4, zl24, 24) :: M) I w) (m := fun z => 36 - z.1) (0, .slice none 0 0) (by repeat first | exact Sub.nil | refine Sub.cons rfl ?_) ⟨by omega, [], by rw [endsL_zero]; exact OwnS.nil, hs4⟩ ?_
  rintro ⟨i, v⟩ w5 ⟨hi, L, ho, hs5⟩
  dsimp only at hi ho hs5
  have hll := length_endsL (f := recH f l) (length_recH h32 l) i
  repeat first | apply W.seq | apply W.region
  refine RL.p rfl rfl rfl (PV_move rfl rfl) ?_
  refine RL.p rfl rfl rfl (PV_lss rfl rfl rfl) ?_
  refine RL.done (nxt ?_)
  repeat first | apply W.seq | apply W.region
  refine W.cond rfl (fun h2 => ?_) (fun h2 => ?_)
  ·
    have hi1 : i < 36 := by have := of_decide_eq_true h2; dsimp only at this; omega
    refine W.skip (nxt ?_)
    repeat first | apply W.seq | apply W.region
    refine W.block ?_
    repeat first | apply W.seq | apply W.region
    refine W.drawsH hs5.drop [(0, true), (1, true), (2, true), (3, true), (4, true), (5, true), (6, false), (7, false), (8, false), (9, false), (10, false), (11, false), (12, false)] mixed (by kernel_rfl) (by kernel_rfl) ?_
    have hs6 := hs5.drew
    refine TW.p rfl rfl rfl rfl (PV_move rfl rfl) (hs6.drop) ?_
    refine TW.p rfl rfl rfl rfl (PV_move rfl rfl) (hs6.drop) ?_
    refine TW.p rfl rfl rfl rfl (PV_move rfl rfl) (hs6.drop) ?_
    refine TW.p rfl rfl rfl rfl (PV_indexAddr rfl Tryz.underlying37 sz24 rfl rfl rfl (by omega)) (hs6.drop) ?_
    refine TW.s rfl rfl rfl rfl (PV_loadMemA (r := bcells (f i)) (j := i * 32) rfl ag24 sz24 rfl (fun _ h => h) (hmem _ _) (by rw [length_bcells, length_endsL h32]; omega) (part_ends h32 hi1)) (hs6.drop) ?_
    refine TW.p rfl rfl rfl rfl (PV_move rfl rfl) (hs6.drop) ?_
    refine TW.q rfl rfl rfl rfl (T := fun _ => True) (PV_move rfl rfl) trivial (fun _ => (hs6.drop)) ?_
    refine TW.q rfl rfl rfl rfl (T := fun _ => True) (PV_indexArr1 i rfl Tryz.underlying187 sz3 rfl rfl rfl (by omega)) trivial (fun _ => (hs6.drop)) ?_
    refine TW.q rfl rfl rfl rfl (PV_loadM1 rfl ag3 rfl m0 (dcells_get hi1 hi1)) (hs6.drop) (fun _ => (hs6.drop)) ?_
    refine TW.e rfl rfl rfl rfl (K4 rfl fn181 rfl rfl rfl rfl (C181 (f := dig (sha l) i) (t := 3) (h32 i) (by omega) (dig_le _ _) hs6)) ?_
    rintro r7 w7 ⟨rfl, hs7⟩
    refine ⟨(hs7.drop), ?_⟩
    refine TW.e rfl rfl rfl rfl (EF_bs1a rfl el37 rfl (by rw [length_bcells]; exact length_recH h32 l i) (by decide) hs7) ?_
    rintro r8 w8 ⟨b29, rfl, hs8⟩
    refine ⟨(hs8.tail.drop), ?_⟩
    refine TW.e rfl rfl rfl rfl (EF_append (l := i) (news := bcells (recH f l i)) rfl el37 rfl rfl ho (by rw [length_bcells, hll]; exact Nat.mul_comm _ _) (rdW (m := 1) hs8 m0 (by rw [length_bcells]; exact length_recH h32 l i) (Nat.le_refl _)) (one1_bcells _) (by omega) (by decide) hs8.mid) ?_
    rintro r9 w9 ⟨L9, ho9, hs9⟩
    refine ⟨(hs9.drop.tail), ?_⟩
    refine TW.qn rfl rfl rfl rfl (T := fun _ => True) (PV_assign rfl rfl) trivial (by kernel_rfl) ?_
    refine TW.done (nxt ?_)
    repeat first | apply W.seq | apply W.region
    refine RL.p rfl rfl rfl (PV_move rfl rfl) ?_
    refine RL.p rfl rfl rfl (PV_add rfl rfl rfl (by omega)) ?_
    refine RL.p rfl rfl rfl (PV_assign rfl rfl) ?_
    refine RL.done (round_end (i + 1, r9) ?_ ?_ ?_)
    · repeat first | exact Sub.nil | refine Sub.cons rfl ?_
    · exact ⟨by dsimp only; omega, L9, by rw [endsL_succ, bcells_append]; exact ho9, hs9.del x0.app⟩
    · first | omega | (dsimp only; omega)
  repeat first | apply W.seq | apply W.region
  obtain rfl : i = 36 := by have := of_decide_eq_false h2; dsimp only at this; omega
  have h36 : (endsL (recH f l) 36).length = 36 * 32 := by rw [hll]
  refine  W.exit (nxt ?_)
  repeat first | apply W.seq | apply W.region
  refine RL.p rfl rfl rfl (PV_move rfl rfl) ?_
  refine RL.e rfl rfl rfl (K1 rfl fn182 rfl (C182 (m := 36) (by decide) h36 (by decide) (ho.toM (by rw [length_bcells, h36]) (by decide)) hs5)) ?_
  rintro r6 w6 ⟨rfl, hs6⟩
  refine RL.e0 rfl rfl (EF_storeA (cs := zl24) rfl rfl rfl sz24 (by rw [length_bcells]; exact length_sha _) (one1_bcells _) hs6 (by first | exact u0 | exact u1 | exact u2 | exact u3 | exact u4 | exact u5 | exact u0.app | exact u1.app | exact u2.app | exact u3.app)) ?_
  rintro r7 w7 hs7
  refine RL.p rfl rfl rfl (PV_assign rfl rfl) ?_
  refine RL.done (nxt ?_)
  repeat first | apply W.seq | apply W.region
  exact W.ret (ret_cell2 rfl rfl rfl (ldA ag24 sz24 hs7 (by first | exact m0 | exact m1 | exact m2 | exact m3 | exact m4 | exact m5 | exact mapp m0 | exact mapp m1 | exact hm) (by rw [length_bcells]; exact length_sha _)) ⟨_, rfl, rfl, hs7.drop.tail.tail⟩)

end Go.Proofs.YtecbpmgfikgoaaaGreatDoor
