/- Walks of functions 83: what each call gives back, and that it writes nothing of anybody else's. Conditions: as each theorem says. -/
import Derived.Test.YtecbpmgfikgoaaaGreatDoorX3
set_option linter.unusedVariables false
set_option linter.unusedSimpArgs false
set_option maxRecDepth 8000
set_option maxHeartbeats 4000000
namespace Go.Proofs.YtecbpmgfikgoaaaGreatDoor
open Go Go.RowKit
variable {G w : World} {M : List Chunk} {I : Imm}

section
variable {P : Program} {n : Nat} {E : List (Nat × Value)} {S : World → Prop} {o : Oper}
theorem PV_u64_mul {T T' : TypeId} {x y : Operand} {p q : Int} {a b : Nat} (ho : o.op = .binOp .mul T x y T') (hx : ev E x = some (.int .u64 p)) (hy : ev E y = some (.int .u64 q)) (ha : p = (a : Int)) (hb : q = (b : Int)) (hm : a * b < 18446744073709551616) : PV P n o E S (.int .u64 ((a * b : Nat) : Int)) := by
  subst ha hb
  have := PV_arith (P := P) (n := n) (S := S) ho hx hy (.inr (.inr ⟨rfl, rfl⟩))
  have h2 : (a : Int) * (b : Int) = ((a * b : Nat) : Int) := by simp
  rw [h2] at this
  generalize a * b = t at *
  rw [show IntKind.u64.wrap (t : Int) = (t : Int) by simp [IntKind.wrap, IntKind.bits, IntKind.signed]; omega] at this
  exact this
end
def padJ (l : List UInt8) (j : Nat) : List UInt8 := l ++ [0x80] ++ List.replicate j 0
theorem length_padJ (l : List UInt8) (j : Nat) : (padJ l j).length = l.length + 1 + j := by simp [padJ]; omega
theorem padJ_succ (l : List UInt8) (j : Nat) : padJ l (j + 1) = padJ l j ++ [0] := by simp [padJ, List.replicate_succ', List.append_assoc]
theorem padded_J (l : List UInt8) : padded l = padJ l (padZ l.length) ++ len8 l.length := rfl
theorem padZ_go {n j : Nat} (hj : j ≤ padZ n) (h : ¬ (n + 1 + j) % 64 = 56) : j < padZ n := by
  unfold padZ at *
  by_cases g : n % 64 < 56
  · rw [if_pos g] at *
    omega
  · rw [if_neg g] at *
    omega
theorem padZ_end {n j : Nat} (hj : j ≤ padZ n) (h : (n + 1 + j) % 64 = 56) : j = padZ n := by
  unfold padZ at *
  by_cases g : n % 64 < 56
  · rw [if_pos g] at *
    omega
  · rw [if_neg g] at *
    omega
theorem padZ_lt (n : Nat) : padZ n < 120 := by unfold padZ; split <;> omega
theorem padded_mod (l : List UInt8) : (padded l).length % 64 = 0 := by
  rw [padded_J, List.length_append, length_padJ]
  have : (len8 l.length).length = 8 := by simp [len8]
  rw [this]
  unfold padZ
  split <;> omega
theorem len8_take {n k : Nat} (hk : k < 8) : (len8 n).take (k + 1) = (len8 n).take k ++ [UInt8.ofNat (n * 8 / 2 ^ (8 * (7 - k)))] := by
  rw [List.take_succ_eq_append_getElem (by simp [len8]; exact hk)]
  simp [len8]
def outP (h : List UInt8) (i : Nat) : List Value := bcells (h.take i) ++ List.replicate (32 - i) (.int .u8 0)
theorem outP_zero (h : List UInt8) : outP h 0 = zl24 := by simp [outP, zl24, bcells]
theorem outP_32 {h : List UInt8} (h32 : h.length = 32) : outP h 32 = bcells h := by rw [outP, List.take_of_length_le (by omega)]; simp
theorem length_outP {h : List UInt8} {i : Nat} (h32 : h.length = 32) (hi : i ≤ 32) : (outP h i).length = 32 := by simp [outP, length_bcells]; omega
theorem outP_set {h : List UInt8} {i : Nat} {b : UInt8} (hi : i < 32) (h32 : h.length = 32) (hb : h[i]? = some b) : (outP h i).set i (u8v b) = outP h (i + 1) := by
  have hl : (bcells (h.take i)).length = i := by rw [length_bcells, List.length_take]; omega
  have hr : 32 - i = (32 - (i + 1)) + 1 := by omega
  have hb' : h[i]'(by omega) = b := by
    rw [List.getElem?_eq_getElem (by omega)] at hb
    simpa using hb
  rw [outP, List.set_append_right _ _ (by omega), hl, Nat.sub_self, hr, List.replicate_succ, List.set_cons_zero, outP, List.take_succ_eq_append_getElem (by omega), bcells_append, hb']
  simp [bcells]
theorem out4_get : ∀ (S : List UInt32) (i : Nat), i < 4 * S.length → (S.flatMap out4)[i]? = some ((gw S (i / 4) >>> UInt32.ofNat (24 - 8 * (i % 4))).toUInt8)
  | [], i, h => by simp at h
  | x :: S, i, h => by
    by_cases h4 : i < 4
    · have h0 : i / 4 = 0 := by omega
      have hm : i % 4 = i := by omega
      rw [List.flatMap_cons, List.getElem?_append_left (by simp [out4]; exact h4), h0, hm]
      rcases (by omega : i = 0 ∨ i = 1 ∨ i = 2 ∨ i = 3) with rfl | rfl | rfl | rfl
      · rfl
      · rfl
      · rfl
      · simp [out4, gw]
    · have ih := out4_get S (i - 4) (by simp at h; omega)
      rw [List.flatMap_cons, List.getElem?_append_right (by simp [out4]; omega)]
      have hl : (out4 x).length = 4 := rfl
      rw [hl, ih]
      have e1 : i / 4 = (i - 4) / 4 + 1 := by omega
      have e2 : (i - 4) % 4 = i % 4 := by omega
      rw [e1, e2]
      simp [gw]

theorem blk_len (s : List UInt32) (b : List UInt8) : (blk s b).length = s.length := by rw [blk_def, length_addW]

theorem C83 {v : Value} {l : List UInt8} (hl : l.length ≤ 2 ^ 40) (hv : SlM G M I 1 v l.length (bcells l)) (hs : Sat G M I w) : Calls Tryz.prog 83 #[v] w (Ret fun r w' => r = aggL (bcells (sha l)) ∧ Sat G M I w') := by
  obtain ⟨A, c, rfl, hc⟩ := hv.shape
  have hpz := padZ_lt l.length
  refine enter1 Tryz.func83 rfl Tryz.ntmps83 rfl ?_
  repeat first | apply W.seq | apply W.region
  refine RL.e rfl rfl rfl (EF_allocA rfl zr24 hs) ?_
  rintro r1 w1 ⟨b2, rfl, hs1⟩
  refine RL.done (nxt ?_)
  repeat first | apply W.seq | apply W.region
  refine RL.e rfl rfl rfl (EF_bs0 rfl el60 hs1) ?_
  rintro r2 w2 ⟨b11, rfl, hs2⟩
  refine RL.p rfl rfl rfl (PV_move rfl rfl) ?_
  refine RL.e rfl rfl rfl (EF_append (l := 0) (m := l.length) (olds := []) (news := bcells l) rfl el60 rfl rfl (OwnS.lit (m := 0) rfl) rfl (hv.rd hs2.tail.tail) (one1_bcells _) (by omega) (by decide) hs2) ?_
  rintro r3 w3 ⟨L3, ho3, hs3⟩
  refine RL.e rfl rfl rfl (EF_bs1c rfl el60 rfl rfl hs3) ?_
  rintro r4 w4 ⟨b14, rfl, hs4⟩
  refine RL.e rfl rfl rfl (EF_append (l := l.length) (m := 1) (olds := bcells l) (news := [.int .u8 128]) rfl el60 rfl rfl ho3 (by rw [length_bcells]; exact (Nat.mul_one _).symm) (rdW (m := 1) hs4 m0 rfl (Nat.le_refl _)) rfl (by omega) (by decide) hs4.mid) ?_
  rintro r5 w5 ⟨L5, ho5, hs5⟩
  refine RL.p rfl rfl rfl (PV_assign rfl rfl) ?_
  refine RL.done (nxt ?_)
  repeat first | apply W.seq | apply W.region
  refine W.block ?_
  repeat first | apply W.seq | apply W.region
  refine W.loop (F := fun z : Nat × Value => [(3, z.2), (0, .slice A l.length c), (2, ptr b2 0)]) (J := fun z w => z.1 ≤ padZ l.length ∧ ∃ L, OwnS 5 1 z.2 (bcells (padJ l z.1)) L ∧ Sat G (L ++ (b2, zl24, 24) :: M) I w) (m := fun z => padZ l.length - z.1) (0, r5) (by repeat first | exact Sub.nil | refine Sub.cons rfl ?_) ⟨by omega, L5, by rw [show padJ l 0 = l ++ [0x80] by simp [padJ], bcells_append]; exact ho5, hs5.del (Del.app x0)⟩ ?_
  rintro ⟨j, x⟩ w6 ⟨hj, L, ho, hs6⟩
  dsimp only at hj ho hs6
  have hpl := length_padJ l j
  obtain ⟨A2, c2, rfl, hc2⟩ := ho.shape (m := (padJ l j).length) (by rw [length_bcells, Nat.mul_one]) (by decide)
  repeat first | apply W.seq | apply W.region
  refine RL.p rfl rfl rfl (PV_move rfl rfl) ?_
  refine RL.p rfl rfl rfl (PV_len rfl Tryz.underlying60 rfl) ?_
  refine RL.p rfl rfl rfl (PV_remN (m := (padJ l j).length) (d := 64) rfl rfl rfl rfl rfl (by decide)) ?_
  refine RL.p rfl rfl rfl (PV_nei rfl rfl rfl) ?_
  refine RL.done (nxt ?_)
  repeat first | apply W.seq | apply W.region
  refine W.cond rfl (fun h1 => ?_) (fun h1 => ?_)
  ·
    have hgo : ¬ (l.length + 1 + j) % 64 = 56 := by have := of_decide_eq_true h1; rw [hpl] at this; omega
    have hgl := padZ_go hj hgo
    refine W.skip (nxt ?_)
    repeat first | apply W.seq | apply W.region
    refine W.block ?_
    repeat first | apply W.seq | apply W.region
    refine RL.p rfl rfl rfl (PV_move rfl rfl) ?_
    refine RL.e rfl rfl rfl (EF_bs1c rfl el60 rfl rfl hs6) ?_
    rintro r7 w7 ⟨b21, rfl, hs7⟩
    refine RL.e rfl rfl rfl (EF_append (l := (padJ l j).length) (m := 1) (olds := bcells (padJ l j)) (news := [.int .u8 0]) rfl el60 rfl rfl ho (by rw [length_bcells]; exact (Nat.mul_one _).symm) (rdW (m := 1) hs7 m0 rfl (Nat.le_refl _)) rfl (by omega) (by decide) hs7.mid) ?_
    rintro r8 w8 ⟨L8, ho8, hs8⟩
    refine RL.p rfl rfl rfl (PV_assign rfl rfl) ?_
    refine RL.done (round_end (j + 1, r8) ?_ ?_ ?_)
    · repeat first | exact Sub.nil | refine Sub.cons rfl ?_
    · exact ⟨padZ_go hj hgo, L8, by rw [padJ_succ, bcells_append]; exact ho8, hs8.del (Del.app x0)⟩
    · first | omega | (dsimp only; omega)
  repeat first | apply W.seq | apply W.region
  obtain rfl : j = padZ l.length := padZ_end hj (by have := of_decide_eq_false h1; rw [hpl] at this; omega)
  refine  W.exit (nxt ?_)
  repeat first | apply W.seq | apply W.region
  refine RL.p rfl rfl rfl (PV_move rfl rfl) ?_
  refine RL.p rfl rfl rfl (PV_len rfl Tryz.underlying60 rfl) ?_
  refine RL.p rfl rfl rfl (PV_conv_i64_u64 (m := l.length) rfl Tryz.underlying3 Tryz.underlying161 rfl rfl (by omega)) ?_
  refine RL.p rfl rfl rfl (PV_u64_mul (a := l.length) (b := 8) rfl rfl rfl rfl rfl (by omega)) ?_
  refine RL.p rfl rfl rfl (PV_assign rfl rfl) ?_
  refine RL.done (nxt ?_)
  repeat first | apply W.seq | apply W.region
  refine RL.p rfl rfl rfl (PV_assign rfl rfl) ?_
  refine RL.done (nxt ?_)
  repeat first | apply W.seq | apply W.region
  refine W.block ?_
  repeat first | apply W.seq | apply W.region
  refine W.loop (F := fun z : Nat × Int × Value => [(5, .int .i64 z.2.1), (3, z.2.2), (4, .int .u64 ((l.length * 8 : Nat) : Int)), (2, ptr b2 0)]) (J := fun z w => z.1 ≤ 8 ∧ z.2.1 = 7 - (z.1 : Int) ∧ ∃ L, OwnS 5 1 z.2.2 (bcells (padJ l (padZ l.length) ++ (len8 l.length).take z.1)) L ∧ Sat G (L ++ (b2, zl24, 24) :: M) I w) (m := fun z => 8 - z.1) (0, 7, .slice A2 (padJ l (padZ l.length)).length c2) (by repeat first | exact Sub.nil | refine Sub.cons rfl ?_) ⟨by omega, rfl, L, by rw [List.take_zero, List.append_nil]; exact ho, hs6⟩ ?_
  rintro ⟨k, iv, x⟩ w7 ⟨hk, hiv, L, ho, hs7⟩
  dsimp only at hk hiv ho hs7
  subst hiv
  have hql : (padJ l (padZ l.length) ++ (len8 l.length).take k).length ≤ l.length + 130 := by rw [List.length_append, length_padJ, List.length_take]; simp [len8]; omega
  repeat first | apply W.seq | apply W.region
  refine RL.p rfl rfl rfl (PV_move rfl rfl) ?_
  refine RL.p rfl rfl rfl (PV_geq rfl rfl rfl) ?_
  refine RL.done (nxt ?_)
  repeat first | apply W.seq | apply W.region
  refine W.cond rfl (fun h2 => ?_) (fun h2 => ?_)
  ·
    have hk8 : k < 8 := by have := of_decide_eq_true h2; dsimp only at this; omega
    refine W.skip (nxt ?_)
    repeat first | apply W.seq | apply W.region
    refine W.block ?_
    repeat first | apply W.seq | apply W.region
    refine RL.p rfl rfl rfl (PV_move rfl rfl) ?_
    refine RL.p rfl rfl rfl (PV_move rfl rfl) ?_
    refine RL.p rfl rfl rfl (PV_move rfl rfl) ?_
    refine RL.p rfl rfl rfl (PV_mul rfl rfl rfl (by first | omega | (dsimp only; omega))) ?_
    refine RL.p rfl rfl rfl (PV_conv_i64_u64 (m := 8 * (7 - k)) rfl Tryz.underlying3 Tryz.underlying113 rfl (by dsimp only; omega) (by omega)) ?_
    refine RL.p rfl rfl rfl (PV_u64_shr (m := l.length * 8) (j := 8 * (7 - k)) rfl rfl rfl rfl rfl (by omega)) ?_
    refine RL.p rfl rfl rfl (PV_conv_u64_u8 (m := l.length * 8 / 2 ^ (8 * (7 - k))) rfl Tryz.underlying161 Tryz.underlying5 rfl rfl) ?_
    refine RL.e rfl rfl rfl (EF_bs1c rfl el60 rfl rfl hs7) ?_
    rintro r8 w8 ⟨b38, rfl, hs8⟩
    refine RL.e rfl rfl rfl (EF_append (l := (padJ l (padZ l.length) ++ (len8 l.length).take k).length) (m := 1) (olds := bcells (padJ l (padZ l.length) ++ (len8 l.length).take k)) (news := [u8v (UInt8.ofNat (l.length * 8 / 2 ^ (8 * (7 - k))))]) rfl el60 rfl rfl ho (by rw [length_bcells]; exact (Nat.mul_one _).symm) (rdW (m := 1) hs8 m0 rfl (Nat.le_refl _)) rfl (by omega) (by decide) hs8.mid) ?_
    rintro r9 w9 ⟨L9, ho9, hs9⟩
    refine RL.p rfl rfl rfl (PV_assign rfl rfl) ?_
    refine RL.done (nxt ?_)
    repeat first | apply W.seq | apply W.region
    refine RL.p rfl rfl rfl (PV_move rfl rfl) ?_
    refine RL.p rfl rfl rfl (PV_sub rfl rfl rfl (by first | omega | (dsimp only; omega))) ?_
    refine RL.p rfl rfl rfl (PV_assign rfl rfl) ?_
    refine RL.done (round_end (k + 1, 7 - (k : Int) - 1, r9) ?_ ?_ ?_)
    · repeat first | exact Sub.nil | refine Sub.cons rfl ?_
    · exact ⟨by dsimp only; omega, by dsimp only; omega, L9, by rw [len8_take hk8, ← List.append_assoc, bcells_append]; exact ho9, hs9.del (Del.app x0)⟩
    · first | omega | (dsimp only; omega)
  repeat first | apply W.seq | apply W.region
  obtain rfl : k = 8 := by have := of_decide_eq_false h2; dsimp only at this; omega
  replace ho : OwnS 5 1 x (bcells (padded l)) L := by rw [List.take_of_length_le (by simp [len8])] at ho; exact ho
  have hpm := padded_mod l
  have hpp : 0 < (padded l).length ∧ (padded l).length ≤ l.length + 130 := by rw [padded_J, List.length_append, length_padJ]; simp [len8]; omega
  rcases ho with ⟨_, h0, _⟩ | ⟨mb, len, cap, zs, rfl, hlen, hL, hcap, hle⟩
  · have := congrArg List.length h0
    rw [length_bcells, List.length_nil] at this
    omega
  obtain rfl : len = (padded l).length := by rw [length_bcells] at hlen; omega
  subst hL
  replace hs7 : Sat G ((mb, bcells (padded l) ++ zs, 5) :: (b2, zl24, 24) :: M) I w7 := hs7
  refine  W.exit (nxt ?_)
  repeat first | apply W.seq | apply W.region
  refine RL.p rfl rfl rfl (PV_arr (ops := ((List.map (fun n => Operand.const (.int .u32 n)) [1779033703, 3144134277, 1013904242, 2773480762, 1359893119, 2600822924, 528734635, 1541459225]))) (vs := w32 iv256) rfl rfl Tryz.underlying154 sz153 zr154 (by kernel_rfl) rfl (one1_w32 _)) ?_
  refine RL.e rfl rfl rfl (EF_allocA rfl zr154 hs7) ?_
  rintro r8 w8 ⟨b6, rfl, hs8⟩
  refine RL.e0 rfl rfl (EF_storeA (cs := zl154) rfl rfl rfl sz154 rfl (one1_w32 _) hs8 (by first | exact u0 | exact u1 | exact u2 | exact u3 | exact u4 | exact u5 | exact u0.app | exact u1.app | exact u2.app | exact u3.app)) ?_
  rintro r9 w9 hs9
  refine RL.done (nxt ?_)
  repeat first | apply W.seq | apply W.region
  refine RL.e rfl rfl rfl (K0 rfl fn129 (C129 hs9)) ?_
  rintro r10 w10 ⟨rfl, hs10⟩
  refine RL.e rfl rfl rfl (EF_allocA rfl zr156 hs10) ?_
  rintro r11 w11 ⟨b7, rfl, hs11⟩
  refine RL.e0 rfl rfl (EF_storeA (cs := zl156) rfl rfl rfl sz156 rfl (one1_w32 _) hs11 (by first | exact u0 | exact u1 | exact u2 | exact u3 | exact u4 | exact u5 | exact u0.app | exact u1.app | exact u2.app | exact u3.app)) ?_
  rintro r12 w12 hs12
  refine RL.done (nxt ?_)
  repeat first | apply W.seq | apply W.region
  refine RL.p rfl rfl rfl (PV_assign rfl rfl) ?_
  refine RL.done (nxt ?_)
  repeat first | apply W.seq | apply W.region
  refine W.block ?_
  repeat first | apply W.seq | apply W.region
  refine W.loop (F := fun x : Nat => [(8, .int .i64 ((64 * x : Nat) : Int)), (3, .slice (some ⟨mb, 0, none⟩) (padded l).length cap), (6, ptr b6 0), (7, ptr b7 0), (2, ptr b2 0)]) (J := fun x w => 64 * x ≤ (padded l).length ∧ Sat G ((b7, w32 k256, 156) :: (b6, w32 (blks iv256 (padded l) x), 154) :: (mb, bcells (padded l) ++ zs, 5) :: (b2, zl24, 24) :: M) I w) (m := fun x => (padded l).length - 64 * x) 0 (by repeat first | exact Sub.nil | refine Sub.cons rfl ?_) ⟨by omega, by rw [blks_zero]; exact hs12⟩ ?_
  rintro x w13 ⟨hx, hs13⟩
  repeat first | apply W.seq | apply W.region
  refine RL.p rfl rfl rfl (PV_move rfl rfl) ?_
  refine RL.p rfl rfl rfl (PV_move rfl rfl) ?_
  refine RL.p rfl rfl rfl (PV_len rfl Tryz.underlying60 rfl) ?_
  refine RL.p rfl rfl rfl (PV_lss rfl rfl rfl) ?_
  refine RL.done (nxt ?_)
  repeat first | apply W.seq | apply W.region
  refine W.cond rfl (fun h3 => ?_) (fun h3 => ?_)
  ·
    have hx1 : 64 * x + 64 ≤ (padded l).length := by have := of_decide_eq_true h3; omega
    have hb8 : (blks iv256 (padded l) x).length = 8 := length_blks ..
    refine W.skip (nxt ?_)
    repeat first | apply W.seq | apply W.region
    refine W.block ?_
    repeat first | apply W.seq | apply W.region
    refine W.drawsH hs13 [(0, true), (1, true), (2, true), (3, false), (4, false), (5, false), (6, false), (7, false)] mixed (by kernel_rfl) (by kernel_rfl) ?_
    have hs14 := hs13.drew
    refine TW.s rfl rfl rfl rfl (PV_loadMA rfl ag154 sz154 rfl m1 (by rw [length_w32, hb8]; decide) (part_whole (by rw [length_w32, hb8]))) hs14 ?_
    refine TW.p rfl rfl rfl rfl (PV_move rfl rfl) hs14 ?_
    refine TW.p rfl rfl rfl rfl (PV_move rfl rfl) hs14 ?_
    refine TW.q rfl rfl rfl rfl (T := fun _ => True) (PV_move rfl rfl) trivial (fun _ => hs14) ?_
    refine TW.q rfl rfl rfl rfl (T := fun _ => True) (PV_add rfl rfl rfl (by first | omega | (dsimp only; omega))) trivial (fun _ => hs14) ?_
    refine TW.q rfl rfl rfl rfl (T := fun _ => True) (PV_sliceLH (p := 64 * x) (r := 64 * x + 64) rfl Tryz.underlying60 sz5 rfl rfl rfl rfl rfl (by omega) (by omega) (by omega)) trivial (fun _ => hs14) ?_
    refine TW.e rfl rfl rfl rfl (K3 rfl fn130 rfl rfl rfl (C130 (l := (padded l).drop (64 * x)) hb8 m0 (by rw [List.length_drop]; omega) (by omega) (Mem.of_own (d := bcells (padded l) ++ zs) m2 (by rw [length_bcells, List.length_drop, List.length_append, length_bcells]; omega) (by rw [length_bcells, List.length_drop, part, Nat.zero_add, Nat.mul_one, List.drop_append_of_le_length (by rw [length_bcells]; omega), List.take_append_of_le_length (by rw [List.length_drop, length_bcells]; exact Nat.le_refl _), List.take_of_length_le (by rw [List.length_drop, length_bcells]; exact Nat.le_refl _)]; simp [bcells])) hs14)) ?_
    rintro r15 w15 ⟨rfl, hs15⟩
    refine ⟨hs15, ?_⟩
    refine TW.en0 rfl rfl rfl (by kernel_rfl) (EF_storeA (cs := w32 (blks iv256 (padded l) x)) rfl rfl rfl (by rw [length_w32, hb8]; exact sz154) (by rw [length_w32, length_w32, hb8, blk_len, hb8]) (one1_w32 _) hs15 (by first | exact u0 | exact u1 | exact u2 | exact u3 | exact u4 | exact u5 | exact u0.app | exact u1.app | exact u2.app | exact u3.app)) ?_
    rintro r16 w16 hs16
    refine TW.done (nxt ?_)
    repeat first | apply W.seq | apply W.region
    refine RL.p rfl rfl rfl (PV_move rfl rfl) ?_
    refine RL.p rfl rfl rfl (PV_add rfl rfl rfl (by first | omega | (dsimp only; omega))) ?_
    refine RL.p rfl rfl rfl (PV_assign rfl rfl) ?_
    refine RL.done (round_end (x + 1) ?_ ?_ ?_)
    · repeat first | exact Sub.nil | refine Sub.cons rfl ?_
    · exact ⟨by omega, by rw [blks_succ]; exact hs16⟩
    · first | omega | (dsimp only; omega)
  repeat first | apply W.seq | apply W.region
  have hS8 : (blks iv256 (padded l) x).length = 8 := length_blks ..
  have hsha : sha l = (blks iv256 (padded l) x).flatMap out4 := by
    rw [sha_def]
    have hxe : (padded l).length / 64 = x := by have := of_decide_eq_false h3; omega
    rw [hxe]
  have h32 := length_sha l
  refine  W.exit (nxt ?_)
  repeat first | apply W.seq | apply W.region
  refine RL.e rfl rfl rfl (EF_allocA rfl zr24 hs13) ?_
  rintro r14 w14 ⟨b9, rfl, hs14⟩
  refine RL.done (nxt ?_)
  repeat first | apply W.seq | apply W.region
  refine RL.p rfl rfl rfl (PV_assign rfl rfl) ?_
  refine RL.done (nxt ?_)
  repeat first | apply W.seq | apply W.region
  refine W.block ?_
  repeat first | apply W.seq | apply W.region
  refine W.loop (F := fun i : Nat => [(10, .int .i64 (i : Int)), (9, ptr b9 0), (6, ptr b6 0), (2, ptr b2 0)]) (J := fun i w => i ≤ 32 ∧ Sat G ((b9, outP (sha l) i, 24) :: (b7, w32 k256, 156) :: (b6, w32 (blks iv256 (padded l) x), 154) :: (mb, bcells (padded l) ++ zs, 5) :: (b2, zl24, 24) :: M) I w) (m := fun i => 32 - i) 0 (by repeat first | exact Sub.nil | refine Sub.cons rfl ?_) ⟨by omega, by rw [outP_zero]; exact hs14⟩ ?_
  rintro i w15 ⟨hi, hs15⟩
  repeat first | apply W.seq | apply W.region
  refine RL.p rfl rfl rfl (PV_move rfl rfl) ?_
  refine RL.p rfl rfl rfl (PV_lss rfl rfl rfl) ?_
  refine RL.done (nxt ?_)
  repeat first | apply W.seq | apply W.region
  refine W.cond rfl (fun h4 => ?_) (fun h4 => ?_)
  ·
    have hi1 : i < 32 := by have := of_decide_eq_true h4; omega
    have hget : (sha l)[i]? = some ((gw (blks iv256 (padded l) x) (i / 4) >>> UInt32.ofNat (24 - 8 * (i % 4))).toUInt8) := by rw [hsha]; exact out4_get _ i (by omega)
    refine W.skip (nxt ?_)
    repeat first | apply W.seq | apply W.region
    refine W.block ?_
    repeat first | apply W.seq | apply W.region
    refine RL.p rfl rfl rfl (PV_move rfl rfl) ?_
    refine RL.p rfl rfl rfl (PV_move rfl rfl) ?_
    refine RL.p rfl rfl rfl (PV_quoN (m := i) (d := 4) rfl rfl rfl rfl rfl (by decide) (by omega)) ?_
    refine RL.p rfl rfl rfl (PV_indexArr1 (i / 4) rfl Tryz.underlying154 sz153 rfl rfl rfl (by omega)) ?_
    refine RL.s rfl rfl rfl (PV_loadM1 rfl ag153 rfl (by first | exact m0 | exact m1 | exact m2 | exact m3 | exact m4 | exact m5 | exact mapp m0 | exact mapp m1 | exact mapp m2 | exact mapp m3) (by first | exact w32_get (by omega) | exact wcells_get (by omega) | exact bc_get (by omega) | exact tc_34 | exact tc_35 | exact tc_36 | exact tc_0 | exact tc_1 | rfl)) hs15 ?_
    refine RL.p rfl rfl rfl (PV_move rfl rfl) ?_
    refine RL.p rfl rfl rfl (PV_remN (m := i) (d := 4) rfl rfl rfl rfl rfl (by decide)) ?_
    refine RL.p rfl rfl rfl (PV_mul rfl rfl rfl (by first | omega | (dsimp only; omega))) ?_
    refine RL.p rfl rfl rfl (PV_sub rfl rfl rfl (by first | omega | (dsimp only; omega))) ?_
    refine RL.p rfl rfl rfl (PV_conv_i64_u64 (m := 24 - 8 * (i % 4)) rfl Tryz.underlying3 Tryz.underlying113 rfl (by omega) (by omega)) ?_
    refine RL.p rfl rfl rfl (PV_u32_shr (m := 24 - 8 * (i % 4)) rfl rfl rfl rfl (by omega)) ?_
    refine RL.p rfl rfl rfl (PV_conv_u32_u8 rfl Tryz.underlying153 Tryz.underlying5 rfl) ?_
    refine RL.p rfl rfl rfl (PV_indexArr1 i rfl Tryz.underlying24 sz5 rfl rfl rfl (by omega)) ?_
    refine RL.e0 rfl rfl (EF_storeC (cs := outP (sha l) i) rfl rfl rfl sz5 rfl (by rw [length_outP h32 hi]; omega) (outP_set hi1 h32 hget) hs15 (by first | exact u0 | exact u1 | exact u2 | exact u3 | exact u4 | exact u5 | exact u0.app | exact u1.app | exact u2.app | exact u3.app)) ?_
    rintro r16 w16 hs16
    refine RL.done (nxt ?_)
    repeat first | apply W.seq | apply W.region
    refine RL.p rfl rfl rfl (PV_move rfl rfl) ?_
    refine RL.p rfl rfl rfl (PV_add rfl rfl rfl (by first | omega | (dsimp only; omega))) ?_
    refine RL.p rfl rfl rfl (PV_assign rfl rfl) ?_
    refine RL.done (round_end (i + 1) ?_ ?_ ?_)
    · repeat first | exact Sub.nil | refine Sub.cons rfl ?_
    · exact ⟨by omega, hs16⟩
    · first | omega | (dsimp only; omega)
  repeat first | apply W.seq | apply W.region
  obtain rfl : i = 32 := by have := of_decide_eq_false h4; omega
  rw [outP_32 h32] at hs15
  refine  W.exit (nxt ?_)
  repeat first | apply W.seq | apply W.region
  refine RL.s rfl rfl rfl (PV_loadMA rfl ag24 sz24 rfl (by first | exact m0 | exact m1 | exact m2 | exact m3 | exact m4 | exact m5 | exact mapp m0 | exact mapp m1 | exact mapp m2 | exact mapp m3) (by rw [length_bcells, h32]; decide) (part_whole (by rw [length_bcells, h32]))) hs15 ?_
  refine RL.e0 rfl rfl (EF_storeA (cs := zl24) rfl rfl rfl sz24 (by rw [length_bcells, h32]; rfl) (one1_bcells _) hs15 (by first | exact u0 | exact u1 | exact u2 | exact u3 | exact u4 | exact u5 | exact u0.app | exact u1.app | exact u2.app | exact u3.app)) ?_
  rintro r16 w16 hs16
  refine RL.done (nxt ?_)
  repeat first | apply W.seq | apply W.region
  exact W.ret (ret_cell rfl rfl (ldA ag24 sz24 hs16 (by first | exact m4) (by rw [length_bcells, h32])) ⟨_, rfl, rfl, hs16.tail.tail.tail.tail.tail⟩)

end Go.Proofs.YtecbpmgfikgoaaaGreatDoor
