/- Walks of functions 183 172 171 169 148: what each call gives back, and that it writes nothing of anybody else's. Conditions: as each theorem says. -/
import Derived.Test.YtecbpmgfikgoaaaGreatDoorX5
set_option linter.unusedVariables false
set_option linter.unusedSimpArgs false
set_option maxRecDepth 8000
set_option maxHeartbeats 4000000
namespace Go.Proofs.YtecbpmgfikgoaaaGreatDoor
open Go Go.RowKit
variable {G w : World} {M : List Chunk} {I : Imm}

section
variable {P : Program} {n : Nat} {E : List (Nat × Value)} {S : World → Prop} {o : Oper}
theorem PV_and1 {T T' : TypeId} {x y : Operand} {p : Int} {m : Nat} (ho : o.op = .binOp .and T x y T') (hx : ev E x = some (.int .i64 p)) (hy : ev E y = some (.int .i64 1)) (hp : p = (m : Int)) (hm : m < 9223372036854775808) : PV P n o E S (.int .i64 ((m % 2 : Nat) : Int)) := .of fun a ha w => by
  subst hp
  have hr : IntKind.i64.wrap ((BitVec.ofInt 64 (m : Int) &&& BitVec.ofInt 64 1).toNat : Int) = ((m % 2 : Nat) : Int) := by
    have h1 : (BitVec.ofInt 64 (m : Int) &&& BitVec.ofInt 64 1).toNat = m % 2 := by
      rw [BitVec.toNat_and]
      have : (BitVec.ofInt 64 (m : Int)).toNat = m := by
        simp [BitVec.toNat_ofInt]
        omega
      rw [this]
      exact Nat.and_two_pow_sub_one_eq_mod m 1
    rw [h1]
    exact IntWalk.i64_in _ (by omega)
  simp only [execOp, ho, ha.ev hx, ha.ev hy, eqGuard, binOp, Op.intBits, Sem.run_bind, Sem.run_pure, Result.andThen_ok]
  exact congrArg (fun v => (Result.ok (Next.value (Value.int .i64 v)) w : Result Next)) hr
end
def sh1 (i : Nat) : Nat → Nat
  | 0 => i
  | k + 1 => sh1 i k / 2 ^ 1
theorem sh1_eq (i k : Nat) : sh1 i k = i / 2 ^ k := by
  induction k with
  | zero => simp [sh1]
  | succ k ih =>
    rw [sh1, ih, Nat.div_div_eq_div_mul]
    rfl
theorem sh1_le (i k : Nat) : sh1 i k ≤ i := by rw [sh1_eq]; exact Nat.div_le_self _ _
/-- Where a path leads. -/
def upK (h : List UInt8) (i : Nat) (p : List UInt8) : Nat → List UInt8
  | 0 => h
  | k + 1 => if sh1 i k % 2 = 0 then nodeH (upK h i p k) ((p.drop (k * 32)).take 32) else nodeH ((p.drop (k * 32)).take 32) (upK h i p k)
theorem length_upK {h : List UInt8} (h32 : h.length = 32) (i : Nat) (p : List UInt8) (k : Nat) : (upK h i p k).length = 32 := by
  cases k with
  | zero => exact h32
  | succ k => unfold upK; split <;> exact length_sha _
theorem upK_even {h : List UInt8} {i : Nat} {p : List UInt8} {k : Nat} (e : sh1 i k % 2 = 0) : upK h i p (k + 1) = nodeH (upK h i p k) ((p.drop (k * 32)).take 32) := by rw [upK, if_pos e]
theorem upK_odd {h : List UInt8} {i : Nat} {p : List UInt8} {k : Nat} (e : ¬ sh1 i k % 2 = 0) : upK h i p (k + 1) = nodeH ((p.drop (k * 32)).take 32) (upK h i p k) := by rw [upK, if_neg e]
theorem upK_app {h : List UInt8} {i : Nat} {p e : List UInt8} : ∀ (k : Nat), k * 32 ≤ p.length → upK h i (p ++ e) k = upK h i p k
  | 0, _ => rfl
  | k + 1, hk => by
    have : ((p ++ e).drop (k * 32)).take 32 = (p.drop (k * 32)).take 32 := by
      rw [List.drop_append_of_le_length (by omega), List.take_append_of_le_length (by rw [List.length_drop]; omega)]
    unfold upK
    rw [upK_app k (by omega), this]
theorem sh1_sub {i k : Nat} (hi : 2 ^ k ≤ i) (j : Nat) (hj : j < k) : sh1 i j % 2 = sh1 (i - 2 ^ k) j % 2 := by
  rw [sh1_eq, sh1_eq]
  obtain ⟨i', rfl⟩ : ∃ i', i = i' + 2 ^ k := ⟨i - 2 ^ k, by omega⟩
  rw [Nat.add_sub_cancel]
  obtain ⟨d, rfl⟩ : ∃ d, k = j + (d + 1) := ⟨k - j - 1, by omega⟩
  rw [Nat.pow_add, Nat.add_mul_div_left _ _ (Nat.pow_pos (by decide)), Nat.pow_succ]
  omega
theorem upK_sub {h : List UInt8} {i k : Nat} {p : List UInt8} (hi : 2 ^ k ≤ i) : ∀ j, j ≤ k → upK h i p j = upK h (i - 2 ^ k) p j
  | 0, _ => rfl
  | j + 1, hj => by
    unfold upK
    rw [upK_sub hi j (by omega), sh1_sub hi j (by omega)]
theorem rootH_succ (k : Nat) (l : List UInt8) : rootH (k + 1) l = nodeH (rootH k (l.take (32 * 2 ^ k))) (rootH k (l.drop (32 * 2 ^ k))) := rfl
theorem pathH_lt {k i : Nat} {l : List UInt8} (h : i < 2 ^ k) : pathH (k + 1) l i = pathH k (l.take (32 * 2 ^ k)) i ++ rootH k (l.drop (32 * 2 ^ k)) := by rw [pathH, if_pos h]
theorem pathH_ge {k i : Nat} {l : List UInt8} (h : ¬ i < 2 ^ k) : pathH (k + 1) l i = pathH k (l.drop (32 * 2 ^ k)) (i - 2 ^ k) ++ rootH k (l.take (32 * 2 ^ k)) := by rw [pathH, if_neg h]
theorem upK_root : ∀ (k : Nat) (l : List UInt8) (i : Nat), l.length = 32 * 2 ^ k → i < 2 ^ k → upK ((l.drop (32 * i)).take 32) i (pathH k l i) k = rootH k l
  | 0, l, i, hl, hi => by
    obtain rfl : i = 0 := by simpa using hi
    rw [upK, rootH, Nat.mul_zero, List.drop_zero, List.take_of_length_le (by omega)]
  | k + 1, l, i, hl, hi => by
    have h2 : 2 ^ (k + 1) = 2 ^ k + 2 ^ k := by rw [Nat.pow_succ]; omega
    have ht : (l.take (32 * 2 ^ k)).length = 32 * 2 ^ k := by rw [List.length_take]; omega
    have hd : (l.drop (32 * 2 ^ k)).length = 32 * 2 ^ k := by rw [List.length_drop]; omega
    have hp : 0 < 2 ^ k := Nat.pow_pos (by decide)
    rw [rootH_succ]
    by_cases hlt : i < 2 ^ k
    · rw [pathH_lt hlt]
      have hpl := length_pathH k (l.take (32 * 2 ^ k)) i ht
      have he : sh1 i k % 2 = 0 := by rw [sh1_eq, Nat.div_eq_of_lt hlt]
      have ih := upK_root k (l.take (32 * 2 ^ k)) i ht hlt
      rw [upK_even he, upK_app k (by omega), List.drop_left' (i := k * 32) (by omega), List.take_of_length_le (Nat.le_of_eq (length_rootH k _ hd)), ← ih]
      congr 2
      rw [List.drop_take, List.take_take]
      congr 1
      omega
    · rw [pathH_ge hlt]
      have hpl := length_pathH k (l.drop (32 * 2 ^ k)) (i - 2 ^ k) hd
      have he : ¬ sh1 i k % 2 = 0 := by
        rw [sh1_eq]
        have h1 : i / 2 ^ k = 1 := by
          rw [Nat.div_eq_iff hp]
          omega
        rw [h1]
        decide
      have ih := upK_root k (l.drop (32 * 2 ^ k)) (i - 2 ^ k) hd (by omega)
      rw [upK_odd he, upK_app k (by omega), List.drop_left' (i := k * 32) (by omega), List.take_of_length_le (Nat.le_of_eq (length_rootH k _ ht)), upK_sub (by omega) k (Nat.le_refl _), ← ih]
      congr 2
      rw [List.drop_drop]
      congr 2
      omega
theorem leaf_get {seed : List UInt8} {i : Nat} (hi : i < 16) : ((leavesH seed).drop (32 * i)).take 32 = pubH seed i := by
  have h := part_ends (f := pubH seed) (fun c => length_sha _) (m := 16) hi
  rw [part_bc] at h
  have : ∀ a b : List UInt8, bcells a = bcells b → a = b := fun a b hab => by
    have hinj : Function.Injective u8v := fun x y hxy => by
      simp only [u8v, Value.int.injEq, true_and] at hxy
      exact UInt8.toNat_inj.1 (by omega)
    exact List.map_inj_right hinj |>.1 hab
  rw [Nat.mul_comm]
  exact this _ _ h
theorem key_up {seed : List UInt8} {i : Nat} (hi : i < 16) : namedH (upK (pubH seed i) i (pathH 4 (leavesH seed) i) 4) = keyH seed := by
  rw [← leaf_get hi, upK_root 4 (leavesH seed) i (length_leavesH seed) hi]
  rfl

theorem C183 {a b : List UInt8} (h32 : a.length = 32) (hb : b.length = 32) (hs : Sat G M I w) : Calls Tryz.prog 183 #[aggL (bcells a), aggL (bcells b)] w (Ret fun r w' => r = aggL (bcells (nodeH a b)) ∧ Sat G M I w') := by
  refine enter2 Tryz.func183 rfl Tryz.ntmps183 rfl ?_
  repeat first | apply W.seq | apply W.region
  refine RL.e rfl rfl rfl (EF_boxA rfl rfl hs) ?_
  rintro r1 w1 ⟨b2, rfl, hs1⟩
  refine RL.e rfl rfl rfl (EF_boxA rfl rfl hs1) ?_
  rintro r2 w2 ⟨b3, rfl, hs2⟩
  refine RL.e rfl rfl rfl (EF_allocA rfl zr24 hs2) ?_
  rintro r3 w3 ⟨b4, rfl, hs3⟩
  refine RL.done (nxt ?_)
  repeat first | apply W.seq | apply W.region
  refine RL.e rfl rfl rfl (EF_bs1c rfl el60 rfl rfl hs3) ?_
  rintro r4 w4 ⟨b6, rfl, hs4⟩
  refine RL.p rfl rfl rfl (PV_sliceArr rfl Tryz.underlying24 rfl sz5) ?_
  refine RL.e rfl rfl rfl (EF_append (l := 1) (olds := bcells [3]) rfl el60 rfl rfl (OwnS.lit (m := 1) rfl) rfl (rdW (m := 32) hs4 m3 (by rw [length_bcells, h32]; rfl) (Nat.le_refl _)) (one1_bcells _) (by omega) (by decide) hs4) ?_
  rintro r5 w5 ⟨L5, ho5, hs5⟩
  refine RL.p rfl rfl rfl (PV_assign rfl rfl) ?_
  refine RL.done (nxt ?_)
  repeat first | apply W.seq | apply W.region
  refine RL.p rfl rfl rfl (PV_move rfl rfl) ?_
  refine RL.p rfl rfl rfl (PV_sliceArr rfl Tryz.underlying24 rfl sz5) ?_
  refine RL.e rfl rfl rfl (EF_append (l := 33) rfl el60 rfl rfl ho5 (by rw [List.length_append, length_bcells, length_bcells, h32]; rfl) (rdW (m := 32) hs5 (mapp m1) (by rw [length_bcells, hb]; rfl) (Nat.le_refl _)) (one1_bcells _) (by omega) (by decide) hs5) ?_
  rintro r6 w6 ⟨L6, ho6, hs6⟩
  refine RL.e rfl rfl rfl (K1 rfl fn83 rfl (C83o (l := [3] ++ a ++ b) (by simp [bcells]) ho6 (by simp [h32, hb]) hs6)) ?_
  rintro r7 w7 ⟨rfl, hs7⟩
  refine RL.e0 rfl rfl (EF_storeA (cs := zl24) rfl rfl rfl sz24 (by rw [length_bcells]; exact length_sha _) (one1_bcells _) hs7 (by first | exact u0 | exact u1 | exact u2 | exact u3 | exact u4 | exact u5 | exact u0.app | exact u1.app | exact u2.app | exact u3.app)) ?_
  rintro r8 w8 hs8
  refine RL.done (nxt ?_)
  repeat first | apply W.seq | apply W.region
  exact W.ret (ret_cell rfl rfl (ldA ag24 sz24 hs8 (by first | exact m0 | exact m1 | exact m2 | exact m3 | exact m4 | exact m5 | exact mapp m0 | exact mapp m1 | exact hm) (by rw [length_bcells]; exact length_sha _)) ⟨_, rfl, rfl, hs8.tail.tail.tail⟩)

theorem C172 {h p : List UInt8} {v : Value} {i m : Nat} (h32 : h.length = 32) (h0 : 0 < m) (hm : m ≤ 64) (hl : p.length = m * 32) (hi : i < 2 ^ 62) (hv : SlM G M I 32 v m (bcells p)) (hs : Sat G M I w) : Calls Tryz.prog 172 #[aggL (bcells h), .int .i64 (i : Int), v] w (Ret fun r w' => r = aggL (bcells (upK h i p m)) ∧ Sat G M I w') := by
  obtain ⟨b, off, c, rfl, hc, hmem⟩ := hv.elem h0
  refine enter3 Tryz.func172 rfl Tryz.ntmps172 rfl ?_
  repeat first | apply W.seq | apply W.region
  refine RL.e rfl rfl rfl (EF_boxA rfl rfl hs) ?_
  rintro r1 w1 ⟨b3, rfl, hs1⟩
  refine RL.e rfl rfl rfl (EF_allocA rfl zr24 hs1) ?_
  rintro r2 w2 ⟨b6, rfl, hs2⟩
  refine RL.done (nxt ?_)
  repeat first | apply W.seq | apply W.region
  refine RL.p rfl rfl rfl (PV_assign rfl rfl) ?_
  refine RL.done (nxt ?_)
  repeat first | apply W.seq | apply W.region
  refine W.block ?_
  repeat first | apply W.seq | apply W.region
  refine W.loop (F := fun k : Nat => [(7, .int .i64 (k : Int)), (1, .int .i64 (sh1 i k : Int)), (3, ptr b3 0), (6, ptr b6 0), (2, .slice (some ⟨b, off, none⟩) m c)]) (J := fun k w => k ≤ m ∧ Sat G ((b6, zl24, 24) :: (b3, bcells (upK h i p k), 24) :: M) I w) (m := fun k => m - k) 0 (by repeat first | exact Sub.nil | refine Sub.cons rfl ?_) ⟨by omega, hs2⟩ ?_
  rintro k w3 ⟨hk, hs3⟩
  repeat first | apply W.seq | apply W.region
  refine RL.p rfl rfl rfl (PV_move rfl rfl) ?_
  refine RL.p rfl rfl rfl (PV_move rfl rfl) ?_
  refine RL.p rfl rfl rfl (PV_len rfl Tryz.underlying37 rfl) ?_
  refine RL.p rfl rfl rfl (PV_lss rfl rfl rfl) ?_
  refine RL.done (nxt ?_)
  repeat first | apply W.seq | apply W.region
  refine W.cond rfl (fun h1 => ?_) (fun h1 => ?_)
  ·
    have hk1 : k < m := by have := of_decide_eq_true h1; omega
    have hu := length_upK h32 i p k
    have hsl := sh1_le i k
    have hpe : ((p.drop (k * 32)).take 32).length = 32 := by rw [List.length_take, List.length_drop]; omega
    refine W.skip (nxt ?_)
    repeat first | apply W.seq | apply W.region
    refine W.block ?_
    repeat first | apply W.seq | apply W.region
    refine RL.p rfl rfl rfl (PV_move rfl rfl) ?_
    refine RL.p rfl rfl rfl (PV_and1 (m := sh1 i k) rfl rfl rfl rfl (by omega)) ?_
    refine RL.p rfl rfl rfl (PV_eqi rfl rfl rfl) ?_
    refine RL.done (nxt ?_)
    repeat first | apply W.seq | apply W.region
    refine W.cut (fun _ : Unit => [(7, .int .i64 (k : Int)), (1, .int .i64 (sh1 i k : Int)), (3, ptr b3 0), (6, ptr b6 0), (2, .slice (some ⟨b, off, none⟩) m c)]) (fun _ w => Sat G ((b6, zl24, 24) :: (b3, bcells (upK h i p (k + 1)), 24) :: M) I w) ?_ ?_
    ·
      refine W.cond rfl (fun h2 => ?_) (fun h2 => ?_)
      ·
        repeat first | apply W.seq | apply W.region
        refine W.drawsH hs3 [(0, true), (1, true), (2, false), (3, false), (4, false), (5, false), (6, false)] mixed (by kernel_rfl) (by kernel_rfl) ?_
        have hs4 := hs3.drew
        refine TW.s rfl rfl rfl rfl (PV_loadMA (r := bcells (upK h i p k)) rfl ag24 sz24 rfl m1 (by rw [length_bcells, hu]; decide) (part_whole (by rw [length_bcells, hu]))) hs4 ?_
        refine TW.p rfl rfl rfl rfl (PV_move rfl rfl) hs4 ?_
        refine TW.q rfl rfl rfl rfl (T := fun _ => True) (PV_move rfl rfl) trivial (fun _ => hs4) ?_
        refine TW.q rfl rfl rfl rfl (T := fun _ => True) (PV_indexAddr rfl Tryz.underlying37 sz24 rfl rfl rfl (by omega)) trivial (fun _ => hs4) ?_
        refine TW.q rfl rfl rfl rfl (PV_loadMemA (r := bcells ((p.drop (k * 32)).take 32)) (j := k * 32) rfl ag24 sz24 rfl (fun _ h => h.tail.tail) hmem (by rw [length_bcells]; omega) (part_bc ..)) hs4 (fun _ => hs4) ?_
        refine TW.e rfl rfl rfl rfl (K2 rfl fn183 rfl rfl (C183 hu hpe hs4)) ?_
        rintro r5 w5 ⟨rfl, hs5⟩
        refine ⟨hs5, ?_⟩
        refine TW.en0 rfl rfl rfl (by kernel_rfl) (EF_storeA (cs := bcells (upK h i p k)) rfl rfl rfl (by rw [length_bcells, hu]; exact sz24) (by rw [length_bcells, length_bcells, hu]; exact length_sha _) (one1_bcells _) hs5 (by first | exact u0 | exact u1 | exact u2 | exact u3 | exact u4 | exact u5 | exact u0.app | exact u1.app | exact u2.app | exact u3.app)) ?_
        rintro r6 w6 hs6
        refine TW.done (cut_end (F := (fun _ : Unit => [(7, .int .i64 (k : Int)), (1, .int .i64 (sh1 i k : Int)), (3, ptr b3 0), (6, ptr b6 0), (2, .slice (some ⟨b, off, none⟩) m c)])) (J := (fun _ w => Sat G ((b6, zl24, 24) :: (b3, bcells (upK h i p (k + 1)), 24) :: M) I w)) () ?_ ?_)
        · repeat first | exact Sub.nil | refine Sub.cons rfl ?_
        · exact (by first | (rw [upK_even (by have := of_decide_eq_true h2; omega)]; exact hs6) | (rw [upK_odd (by have := of_decide_eq_false h2; omega)]; exact hs6))
      ·
        repeat first | apply W.seq | apply W.region
        refine W.drawsH hs3 [(0, true), (1, true), (2, true), (3, true), (4, false), (5, false), (6, false)] mixed (by kernel_rfl) (by kernel_rfl) ?_
        have hs4 := hs3.drew
        refine TW.p rfl rfl rfl rfl (PV_move rfl rfl) hs4 ?_
        refine TW.p rfl rfl rfl rfl (PV_move rfl rfl) hs4 ?_
        refine TW.p rfl rfl rfl rfl (PV_indexAddr rfl Tryz.underlying37 sz24 rfl rfl rfl (by omega)) hs4 ?_
        refine TW.s rfl rfl rfl rfl (PV_loadMemA (r := bcells ((p.drop (k * 32)).take 32)) (j := k * 32) rfl ag24 sz24 rfl (fun _ h => h.tail.tail) hmem (by rw [length_bcells]; omega) (part_bc ..)) hs4 ?_
        refine TW.q rfl rfl rfl rfl (PV_loadMA (r := bcells (upK h i p k)) rfl ag24 sz24 rfl m1 (by rw [length_bcells, hu]; decide) (part_whole (by rw [length_bcells, hu]))) hs4 (fun _ => hs4) ?_
        refine TW.e rfl rfl rfl rfl (K2 rfl fn183 rfl rfl (C183 hpe hu hs4)) ?_
        rintro r5 w5 ⟨rfl, hs5⟩
        refine ⟨hs5, ?_⟩
        refine TW.en0 rfl rfl rfl (by kernel_rfl) (EF_storeA (cs := bcells (upK h i p k)) rfl rfl rfl (by rw [length_bcells, hu]; exact sz24) (by rw [length_bcells, length_bcells, hu]; exact length_sha _) (one1_bcells _) hs5 (by first | exact u0 | exact u1 | exact u2 | exact u3 | exact u4 | exact u5 | exact u0.app | exact u1.app | exact u2.app | exact u3.app)) ?_
        rintro r6 w6 hs6
        refine TW.done (cut_end (F := (fun _ : Unit => [(7, .int .i64 (k : Int)), (1, .int .i64 (sh1 i k : Int)), (3, ptr b3 0), (6, ptr b6 0), (2, .slice (some ⟨b, off, none⟩) m c)])) (J := (fun _ w => Sat G ((b6, zl24, 24) :: (b3, bcells (upK h i p (k + 1)), 24) :: M) I w)) () ?_ ?_)
        · repeat first | exact Sub.nil | refine Sub.cons rfl ?_
        · exact (by first | (rw [upK_even (by have := of_decide_eq_true h2; omega)]; exact hs6) | (rw [upK_odd (by have := of_decide_eq_false h2; omega)]; exact hs6))
    rintro _ w103 hs103
    refine nxt ?_
    repeat first | apply W.seq | apply W.region
    refine RL.p rfl rfl rfl (PV_move rfl rfl) ?_
    refine RL.p rfl rfl rfl (PV_shrN (m := sh1 i k) (j := 1) rfl rfl rfl rfl rfl (by decide)) ?_
    refine RL.p rfl rfl rfl (PV_assign rfl rfl) ?_
    refine RL.done (nxt ?_)
    repeat first | apply W.seq | apply W.region
    refine RL.p rfl rfl rfl (PV_move rfl rfl) ?_
    refine RL.p rfl rfl rfl (PV_add rfl rfl rfl (by omega)) ?_
    refine RL.p rfl rfl rfl (PV_assign rfl rfl) ?_
    refine RL.done (round_end (k + 1) ?_ ?_ ?_)
    · repeat first | exact Sub.nil | refine Sub.cons rfl ?_
    · exact ⟨by omega, hs103⟩
    · first | omega | (dsimp only; omega)
  repeat first | apply W.seq | apply W.region
  obtain rfl : k = m := by have := of_decide_eq_false h1; omega
  have hu := length_upK h32 i p k
  refine  W.exit (nxt ?_)
  repeat first | apply W.seq | apply W.region
  refine RL.s rfl rfl rfl (PV_loadMA (r := bcells (upK h i p k)) rfl ag24 sz24 rfl m1 (by rw [length_bcells, hu]; decide) (part_whole (by rw [length_bcells, hu]))) hs3 ?_
  refine RL.e0 rfl rfl (EF_storeA (cs := zl24) rfl rfl rfl sz24 (by rw [length_bcells]; exact hu) (one1_bcells _) hs3 (by first | exact u0 | exact u1 | exact u2 | exact u3 | exact u4 | exact u5 | exact u0.app | exact u1.app | exact u2.app | exact u3.app)) ?_
  rintro r4 w4 hs4
  refine RL.done (nxt ?_)
  repeat first | apply W.seq | apply W.region
  exact W.ret (ret_cell rfl rfl (ldA ag24 sz24 hs4 (by first | exact m0 | exact m1 | exact m2 | exact m3 | exact m4 | exact m5 | exact mapp m0 | exact mapp m1 | exact hm) (by rw [length_bcells]; exact hu)) ⟨_, rfl, rfl, hs4.tail.tail⟩)

theorem C171 {h : List UInt8} (h32 : h.length = 32) (hs : Sat G M I w) : Calls Tryz.prog 171 #[aggL (bcells h)] w (Ret fun r w' => r = aggL (bcells (namedH h)) ∧ Sat G M I w') := by
  refine enter1 Tryz.func171 rfl Tryz.ntmps171 rfl ?_
  repeat first | apply W.seq | apply W.region
  refine RL.e rfl rfl rfl (EF_boxA rfl rfl hs) ?_
  rintro r1 w1 ⟨b1, rfl, hs1⟩
  refine RL.e rfl rfl rfl (EF_allocA rfl zr24 hs1) ?_
  rintro r2 w2 ⟨b2, rfl, hs2⟩
  refine RL.done (nxt ?_)
  repeat first | apply W.seq | apply W.region
  refine RL.e rfl rfl rfl (EF_bs1c rfl el60 rfl rfl hs2) ?_
  rintro r3 w3 ⟨b3, rfl, hs3⟩
  refine RL.p rfl rfl rfl (PV_sliceArr rfl Tryz.underlying24 rfl sz5) ?_
  refine RL.e rfl rfl rfl (EF_append (l := 1) (olds := bcells [4]) rfl el60 rfl rfl (OwnS.lit (m := 1) rfl) rfl (rdW (m := 32) hs3 m2 (by rw [length_bcells, h32]; rfl) (Nat.le_refl _)) (one1_bcells _) (by omega) (by decide) hs3) ?_
  rintro r4 w4 ⟨L4, ho4, hs4⟩
  refine RL.e rfl rfl rfl (K1 rfl fn83 rfl (C83o (l := [4] ++ h) (by simp [bcells]) ho4 (by simp [h32]) hs4)) ?_
  rintro r5 w5 ⟨rfl, hs5⟩
  refine RL.e0 rfl rfl (EF_storeA (cs := zl24) rfl rfl rfl sz24 (by rw [length_bcells]; exact length_sha _) (one1_bcells _) hs5 (by first | exact u0 | exact u1 | exact u2 | exact u3 | exact u4 | exact u5 | exact u0.app | exact u1.app | exact u2.app | exact u3.app)) ?_
  rintro r6 w6 hs6
  refine RL.done (nxt ?_)
  repeat first | apply W.seq | apply W.region
  exact W.ret (ret_cell rfl rfl (ldA ag24 sz24 hs6 (by first | exact m0 | exact m1 | exact m2 | exact m3 | exact m4 | exact m5 | exact mapp m0 | exact mapp m1 | exact hm) (by rw [length_bcells]; exact length_sha _)) ⟨_, rfl, rfl, hs6.tail.tail⟩)

theorem C169 {u c1 c2 : Nat} {A1 A2 : Option Addr} (hu : u < 16) (hs : Sat G M I w) : Calls Tryz.prog 169 #[aggL [.int .i64 (u : Int), .slice A1 36 c1, .slice A2 4 c2]] w (Ret fun r w' => r = .bool true ∧ Sat G M I w') := by
  refine enter1 Tryz.func169 rfl Tryz.ntmps169 rfl ?_
  repeat first | apply W.seq | apply W.region
  refine RL.e rfl rfl rfl (EF_boxA rfl rfl hs) ?_
  rintro r1 w1 ⟨b1, rfl, hs1⟩
  refine RL.p rfl rfl rfl (PV_assign rfl rfl) ?_
  refine RL.done (nxt ?_)
  repeat first | apply W.seq | apply W.region
  refine RL.p rfl rfl rfl (by first | exact PV_fieldAddr0 rfl rfl fa129_0 | exact PV_fieldAddr rfl rfl fa129_0) ?_
  refine RL.s rfl rfl rfl (PV_loadM1 rfl ag3 rfl (by first | exact m0 | exact m1 | exact m2 | exact m3 | exact m4 | exact m5 | exact mapp m0 | exact mapp m1 | exact mapp m2 | exact mapp m3) (by first | exact tc_34 | exact tc_35 | exact tc_36 | exact tc_0 | exact tc_1 | rfl)) hs1 ?_
  refine RL.p rfl rfl rfl (PV_geq rfl rfl rfl) ?_
  refine RL.p rfl rfl rfl (PV_move rfl rfl) ?_
  refine RL.split 6 rfl (fun g1 => ?_) (fun g1 => by exact absurd (of_decide_eq_false g1) (by omega))
  refine RL.gp rfl rfl rfl rfl g1 rfl rfl rfl (by first | exact PV_fieldAddr0 rfl rfl fa129_0 | exact PV_fieldAddr rfl rfl fa129_0) ?_
  refine RL.gs rfl rfl rfl rfl g1 rfl rfl rfl (PV_loadM1 rfl ag3 rfl (by first | exact m0 | exact m1 | exact m2 | exact m3 | exact m4 | exact m5 | exact mapp m0 | exact mapp m1 | exact mapp m2 | exact mapp m3) (by first | exact tc_34 | exact tc_35 | exact tc_36 | exact tc_0 | exact tc_1 | rfl)) hs1 ?_
  refine RL.gp rfl rfl rfl rfl g1 rfl rfl rfl (PV_lss rfl rfl rfl) ?_
  refine RL.p rfl rfl rfl (PV_pickT rfl rfl g1 rfl) ?_
  refine RL.p rfl rfl rfl (PV_move rfl rfl) ?_
  refine RL.split 11 rfl (fun g2 => ?_) (fun g2 => by exact absurd (of_decide_eq_false g2) (by omega))
  refine RL.gp rfl rfl rfl rfl g2 rfl rfl rfl (by first | exact PV_fieldAddr0 rfl rfl fa129_1 | exact PV_fieldAddr rfl rfl fa129_1) ?_
  refine RL.gs rfl rfl rfl rfl g2 rfl rfl rfl (PV_loadM1 rfl ag37 rfl (by first | exact m0 | exact m1 | exact m2 | exact m3 | exact m4 | exact m5 | exact mapp m0 | exact mapp m1 | exact mapp m2 | exact mapp m3) (by first | exact tc_34 | exact tc_35 | exact tc_36 | exact tc_0 | exact tc_1 | rfl)) hs1 ?_
  refine RL.gp rfl rfl rfl rfl g2 rfl rfl rfl (PV_len rfl Tryz.underlying37 rfl) ?_
  refine RL.gp rfl rfl rfl rfl g2 rfl rfl rfl (PV_eqi rfl rfl rfl) ?_
  refine RL.p rfl rfl rfl (PV_pickT rfl rfl g2 rfl) ?_
  refine RL.p rfl rfl rfl (PV_move rfl rfl) ?_
  refine RL.split 17 rfl (fun g3 => ?_) (fun g3 => by exact absurd (of_decide_eq_false g3) (by omega))
  refine RL.gp rfl rfl rfl rfl g3 rfl rfl rfl (by first | exact PV_fieldAddr0 rfl rfl fa129_2 | exact PV_fieldAddr rfl rfl fa129_2) ?_
  refine RL.gs rfl rfl rfl rfl g3 rfl rfl rfl (PV_loadM1 rfl ag37 rfl (by first | exact m0 | exact m1 | exact m2 | exact m3 | exact m4 | exact m5 | exact mapp m0 | exact mapp m1 | exact mapp m2 | exact mapp m3) (by first | exact tc_34 | exact tc_35 | exact tc_36 | exact tc_0 | exact tc_1 | rfl)) hs1 ?_
  refine RL.gp rfl rfl rfl rfl g3 rfl rfl rfl (PV_len rfl Tryz.underlying37 rfl) ?_
  refine RL.gp rfl rfl rfl rfl g3 rfl rfl rfl (PV_eqi rfl rfl rfl) ?_
  refine RL.p rfl rfl rfl (PV_pickT rfl rfl g3 rfl) ?_
  refine RL.p rfl rfl rfl (PV_assign rfl rfl) ?_
  refine RL.done (nxt ?_)
  repeat first | apply W.seq | apply W.region
  exact W.ret (ret_tmp rfl rfl ⟨_, rfl, rfl, hs1.tail⟩)

theorem C148 {pub l pa : List UInt8} {f : Nat → List UInt8} {p cv pv : Value} {u : Nat} (hpub : pub.length = 32) (hu : u < 16) (h32 : ∀ i, (f i).length = 32) (hl : l.length ≤ 2 ^ 40) (hpa : pa.length = 4 * 32) (hp : SlM G M I 1 p l.length (bcells l)) (hc : SlI I 32 cv 36 (bcells (endsL f 36))) (hq : SlI I 32 pv 4 (bcells pa)) (hs : Sat G M I w) : Calls Tryz.prog 148 #[aggL (bcells pub), p, aggL [.int .i64 (u : Int), cv, pv]] w (Ret fun r w' => r = .bool (namedH (upK (sha ([2] ++ endsL (recH f l) 36)) u pa 4) == pub) ∧ Sat G M I w') := by
  obtain ⟨A1, c1, rfl, hc1⟩ := hc.shape
  obtain ⟨A2, c2, rfl, hc2⟩ := hq.shape
  refine enter3 Tryz.func148 rfl Tryz.ntmps148 rfl ?_
  repeat first | apply W.seq | apply W.region
  refine RL.e rfl rfl rfl (EF_boxA rfl rfl hs) ?_
  rintro r1 w1 ⟨b3, rfl, hs1⟩
  refine RL.e rfl rfl rfl (EF_boxA rfl rfl hs1) ?_
  rintro r2 w2 ⟨b5, rfl, hs2⟩
  refine RL.p rfl rfl rfl (PV_assign rfl rfl) ?_
  refine RL.done (nxt ?_)
  repeat first | apply W.seq | apply W.region
  refine RL.s rfl rfl rfl (PV_loadMA rfl ag129 sz129 rfl (by first | exact m0 | exact m1 | exact m2 | exact m3 | exact m4 | exact m5 | exact mapp m0 | exact mapp m1 | exact mapp m2 | exact mapp m3) (by simp) (part_whole rfl)) hs2 ?_
  refine RL.e rfl rfl rfl (K1 rfl fn169 rfl (C169 hu hs2)) ?_
  rintro r3 w3 ⟨rfl, hs3⟩
  refine RL.p rfl rfl rfl (PV_not rfl rfl) ?_
  refine RL.done (nxt ?_)
  repeat first | apply W.seq | apply W.region
  refine W.cond rfl (fun h1 => ?_) (fun h1 => ?_)
  · exact absurd h1 (by decide)
  refine W.skip (nxt ?_)
  repeat first | apply W.seq | apply W.region
  refine RL.p rfl rfl rfl (PV_move rfl rfl) ?_
  refine RL.p rfl rfl rfl (by first | exact PV_fieldAddr0 rfl rfl fa129_1 | exact PV_fieldAddr rfl rfl fa129_1) ?_
  refine RL.s rfl rfl rfl (PV_loadM1 rfl ag37 rfl (by first | exact m0 | exact m1 | exact m2 | exact m3 | exact m4 | exact m5 | exact mapp m0 | exact mapp m1 | exact mapp m2 | exact mapp m3) (by first | exact tc_34 | exact tc_35 | exact tc_36 | exact tc_0 | exact tc_1 | rfl)) hs3 ?_
  refine RL.e rfl rfl rfl (K2 rfl fn170 rfl rfl (C170 h32 hl (hp.mono fun _ h => h.tail.tail) hc hs3)) ?_
  rintro r4 w4 ⟨rfl, hs4⟩
  refine RL.p rfl rfl rfl (PV_move rfl rfl) ?_
  refine RL.p rfl rfl rfl (PV_extract rfl rfl rfl) ?_
  refine RL.p rfl rfl rfl (PV_extract rfl rfl rfl) ?_
  refine RL.e rfl rfl rfl (EF_allocA rfl zr24 hs4) ?_
  rintro r5 w5 ⟨b7, rfl, hs5⟩
  refine RL.e0 rfl rfl (EF_storeA (cs := zl24) rfl rfl rfl sz24 (by rw [length_bcells]; exact length_sha _) (one1_bcells _) hs5 (by first | exact u0 | exact u1 | exact u2 | exact u3 | exact u4 | exact u5 | exact u0.app | exact u1.app | exact u2.app | exact u3.app)) ?_
  rintro r6 w6 hs6
  refine RL.p rfl rfl rfl (PV_assign rfl rfl) ?_
  refine RL.done (nxt ?_)
  repeat first | apply W.seq | apply W.region
  refine W.drawsH hs6 [(0, true), (1, true), (2, true), (3, true), (4, true), (7, true), (5, false), (6, false), (8, false), (9, false)] mixed (by kernel_rfl) (by kernel_rfl) ?_
  have hs7 := hs6.drew
  refine TW.s rfl rfl rfl rfl (PV_loadMA rfl ag24 sz24 rfl m0 (by rw [length_bcells, length_sha]; decide) (part_whole (by rw [length_bcells, length_sha]))) hs7 ?_
  refine TW.p rfl rfl rfl rfl (by first | exact PV_fieldAddr0 rfl rfl fa129_0 | exact PV_fieldAddr rfl rfl fa129_0) hs7 ?_
  refine TW.s rfl rfl rfl rfl (PV_loadM1 rfl ag3 rfl (by first | exact m0 | exact m1 | exact m2 | exact m3 | exact m4 | exact m5 | exact mapp m0 | exact mapp m1 | exact mapp m2 | exact mapp m3) (by first | exact tc_34 | exact tc_35 | exact tc_36 | exact tc_0 | exact tc_1 | rfl)) hs7 ?_
  refine TW.p rfl rfl rfl rfl (by first | exact PV_fieldAddr0 rfl rfl fa129_2 | exact PV_fieldAddr rfl rfl fa129_2) hs7 ?_
  refine TW.s rfl rfl rfl rfl (PV_loadM1 rfl ag37 rfl (by first | exact m0 | exact m1 | exact m2 | exact m3 | exact m4 | exact m5 | exact mapp m0 | exact mapp m1 | exact mapp m2 | exact mapp m3) (by first | exact tc_34 | exact tc_35 | exact tc_36 | exact tc_0 | exact tc_1 | rfl)) hs7 ?_
  refine TW.s rfl rfl rfl rfl (PV_loadMA rfl ag24 sz24 rfl m2 (by rw [length_bcells, hpub]; decide) (part_whole (by rw [length_bcells, hpub]))) hs7 ?_
  refine TW.e rfl rfl rfl rfl (K3 rfl fn172 rfl rfl rfl (C172 (m := 4) (length_sha _) (by decide) (by decide) hpa (by omega) hq.toM hs7)) ?_
  rintro r8 w8 ⟨rfl, hs8⟩
  refine ⟨hs8, ?_⟩
  refine TW.e rfl rfl rfl rfl (K1 rfl fn171 rfl (C171 (length_upK (length_sha _) ..) hs8)) ?_
  rintro r9 w9 ⟨rfl, hs9⟩
  refine ⟨hs9, ?_⟩
  refine TW.q rfl rfl rfl rfl (T := fun _ => True) (PV_eqH rfl (length_sha _) hpub rfl rfl) trivial (fun _ => hs9) ?_
  refine TW.qn rfl rfl rfl rfl (T := fun _ => True) (PV_assign rfl rfl) trivial (by kernel_rfl) ?_
  refine TW.done (nxt ?_)
  repeat first | apply W.seq | apply W.region
  exact W.ret (ret_tmp rfl rfl ⟨_, rfl, rfl, hs9.tail.tail.tail⟩)

end Go.Proofs.YtecbpmgfikgoaaaGreatDoor
