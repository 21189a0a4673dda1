/- Walks of functions 142 119 149 146 118 122 127 123: what each call gives back, and that it writes nothing of anybody else's. Conditions: as each theorem says. -/
import Derived.Test.YtecbpmgfikgoaaaGreatDoorX1
import Derived.Test.YtecbpmgfikgoaaaGreatDoorV1
set_option linter.unusedVariables false
set_option linter.unusedSimpArgs false
set_option maxRecDepth 8000
set_option maxHeartbeats 4000000
namespace Go.Proofs.YtecbpmgfikgoaaaGreatDoor
open Go Go.RowKit
variable {G w : World} {M : List Chunk} {I : Imm}

theorem map_addZ (A : Option Addr) : A.map (·.add (0 * 1)) = A := by cases A <;> simp [Addr.add]
theorem SlB.pre {A : Option Addr} {m c : Nat} {l1 l2 : List UInt8} (h : SlB I (.slice A m c) (l1 ++ l2)) : SlB I (.slice A l1.length c) l1 ∧ m = (l1 ++ l2).length ∧ (l1 ++ l2).length ≤ c := by
  obtain ⟨h1, A', c', he, hc, h2⟩ := h
  obtain ⟨rfl, rfl, rfl⟩ : A = A' ∧ m = (l1 ++ l2).length ∧ c = c' := by simpa using he
  refine ⟨⟨by rw [length_bcells, Nat.mul_one], A, c, rfl, by rw [List.length_append] at hc; omega, ?_⟩, rfl, hc⟩
  rcases h2 with h2 | ⟨b, off, d, T, fr, rfl, hb, hf, hp⟩
  · exact .inl (by rw [List.length_append] at h2; omega)
  · refine .inr ⟨b, off, d, T, fr, rfl, hb, by rw [List.length_append] at hf; omega, ?_⟩
    have : part d.toList off (l1.length * 1) = (part d.toList off ((l1 ++ l2).length * 1)).take (l1.length) := by
      simp only [part, List.take_take, List.length_append, Nat.mul_one]
      congr 1
      omega
    rw [this, hp, bcells_append, ← length_bcells, List.take_left]
theorem SlB.suf {A : Option Addr} {c : Nat} {l1 l2 : List UInt8} (h : SlB I (.slice A (l1 ++ l2).length c) (l1 ++ l2)) : SlB I (.slice (if c = l1.length then A else A.map (·.add (l1.length * 1))) ((l1 ++ l2).length - l1.length) (c - l1.length)) l2 := by
  obtain ⟨h1, A', c', he, hc, h2⟩ := h
  obtain ⟨rfl, rfl⟩ : A = A' ∧ c = c' := by simpa using he
  have hl : (l1 ++ l2).length - l1.length = l2.length := by simp
  rw [hl]
  refine ⟨by rw [length_bcells, Nat.mul_one], _, _, rfl, by rw [List.length_append] at hc; omega, ?_⟩
  by_cases h0 : l2.length = 0
  · exact .inl h0
  · rcases h2 with h2 | ⟨b, off, d, T, fr, rfl, hb, hf, hp⟩
    · rw [List.length_append] at h2; omega
    · have hne : ¬ c = l1.length := by rw [List.length_append] at hc; omega
      rw [if_neg hne, Option.map_some, add_lit']
      refine .inr ⟨b, off + l1.length * 1, d, T, fr, rfl, hb, by rw [List.length_append] at hf; omega, ?_⟩
      have : part d.toList (off + l1.length * 1) (l2.length * 1) = (part d.toList off ((l1 ++ l2).length * 1)).drop l1.length := by
        simp only [part, List.drop_take, List.drop_drop, List.length_append, Nat.mul_one]
        congr 1
        omega
      rw [this, hp, bcells_append, ← length_bcells, List.drop_left]

section
variable {P : Program} {n : Nat} {E : List (Nat × Value)} {S : World → Prop} {o : Oper}
theorem PV_u64_orE {T T' : TypeId} {x y : Operand} {p q : Int} {a b r : Nat} (ho : o.op = .binOp .or T x y T') (hx : ev E x = some (.int .u64 p)) (hy : ev E y = some (.int .u64 q)) (hp : p = (a : Int)) (hq : q = (b : Int)) (ha' : a < 18446744073709551616) (hb' : b < 18446744073709551616) (hr : a ||| b = r) : PV P n o E S (.int .u64 (r : Int)) := by
  subst hr
  exact PV_u64_or ho hx hy hp hq ha' hb'
end
theorem numB_cons (q : Nat) : ∃ c t, numB q = c :: t ∧ (c &&& 127).toNat = q % 128 ∧ (q < 128 → c.toNat = q ∧ t = []) ∧ (128 ≤ q → 128 ≤ c.toNat ∧ t = numB (q / 128)) := by
  have key : ∀ n : Fin 256, 128 ≤ (n.val ||| 128) ∧ ((n.val ||| 128) &&& 127) = n.val % 128 := by decide
  by_cases h : q < 128
  · refine ⟨UInt8.ofNat q, [], numB_lt h, ?_, fun _ => ⟨?_, rfl⟩, fun h2 => absurd h (by omega)⟩
    · rw [UInt8.toNat_and, UInt8.toNat_ofNat', show (127 : UInt8).toNat = 127 from rfl, Nat.and_two_pow_sub_one_eq_mod _ 7]
      omega
    · rw [UInt8.toNat_ofNat']
      omega
  · have h2 := key ⟨q % 256, Nat.mod_lt _ (by decide)⟩
    refine ⟨UInt8.ofNat q ||| 0x80, numB (q / 128), numB_ge h, ?_, fun h3 => absurd h3 h, fun _ => ⟨?_, rfl⟩⟩
    · rw [UInt8.toNat_and, UInt8.toNat_or, UInt8.toNat_ofNat', show (127 : UInt8).toNat = 127 from rfl, show (0x80 : UInt8).toNat = 128 from rfl]
      have e : q % 2 ^ 8 = q % 256 := rfl
      rw [e]
      refine h2.2.trans ?_
      show q % 256 % 128 = q % 128
      omega
    · rw [UInt8.toNat_or, UInt8.toNat_ofNat', show (0x80 : UInt8).toNat = 128 from rfl]
      exact h2.1

theorem C142 {xb : Nat} {v : Value} {n : Nat} {l1 l2 : List UInt8} (hn : l1.length = n) (hl : (l1 ++ l2).length ≤ 2 ^ 41) (hv : SlB I v (l1 ++ l2)) (hs : Sat G ((xb, [v, .bool false], 209) :: M) I w) : Calls Tryz.prog 142 #[ptr xb 0, .int .i64 (n : Int)] w (Ret fun r w' => ∃ J v', Le I J ∧ SlB J r l1 ∧ SlB J v' l2 ∧ Sat G ((xb, [v', .bool false], 209) :: M) J w') := by
  obtain ⟨A, c, rfl, hc⟩ := SlI.shape hv
  obtain ⟨hpre, _, hcl⟩ := hv.pre
  have hsuf := hv.suf
  refine enter2 Tryz.func142 rfl Tryz.ntmps142 rfl ?_
  repeat first | apply W.seq | apply W.region
  refine RL.p rfl rfl rfl (PV_assign rfl rfl) ?_
  refine RL.done (nxt ?_)
  repeat first | apply W.seq | apply W.region
  refine RL.p rfl rfl rfl (PV_move rfl rfl) ?_
  refine RL.p rfl rfl rfl (PV_lss rfl rfl rfl) ?_
  refine RL.p rfl rfl rfl (PV_move rfl rfl) ?_
  refine RL.split 8 rfl (fun g1 => by exact absurd (of_decide_eq_true g1) (by omega)) (fun g1 => ?_)
  refine RL.gp rfl rfl rfl rfl g1 rfl rfl rfl (PV_move rfl rfl) ?_
  refine RL.gp rfl rfl rfl rfl g1 rfl rfl rfl (PV_move rfl rfl) ?_
  refine RL.gp rfl rfl rfl rfl g1 rfl rfl rfl (PV_nilCheckP rfl rfl) ?_
  refine RL.gp rfl rfl rfl rfl g1 rfl rfl rfl (by first | exact PV_fieldAddr0 rfl rfl fa209_0 | exact PV_fieldAddr rfl rfl fa209_0) ?_
  refine RL.gs rfl rfl rfl rfl g1 rfl rfl rfl (PV_loadM1 rfl ag60 rfl (by first | exact m0 | exact m1 | exact m2 | exact m3 | exact m4 | exact m5 | exact mapp m0 | exact mapp m1 | exact mapp m2 | exact mapp m3) (by first | exact tc_34 | exact tc_35 | exact tc_36 | exact tc_0 | exact tc_1 | rfl)) hs ?_
  refine RL.gp rfl rfl rfl rfl g1 rfl rfl rfl (PV_len rfl Tryz.underlying60 rfl) ?_
  refine RL.gp rfl rfl rfl rfl g1 rfl rfl rfl (PV_gtr rfl rfl rfl) ?_
  refine RL.p rfl rfl rfl (PV_pickF rfl rfl g1 rfl) ?_
  refine RL.done (nxt ?_)
  repeat first | apply W.seq | apply W.region
  refine W.cond rfl (fun h1 => ?_) (fun h1 => ?_)
  · exact absurd (of_decide_eq_true h1) (by simp; omega)
  refine W.skip (nxt ?_)
  repeat first | apply W.seq | apply W.region
  refine RL.p rfl rfl rfl (PV_move rfl rfl) ?_
  refine RL.p rfl rfl rfl (PV_nilCheckP rfl rfl) ?_
  refine RL.p rfl rfl rfl (by first | exact PV_fieldAddr0 rfl rfl fa209_1 | exact PV_fieldAddr rfl rfl fa209_1) ?_
  refine RL.s rfl rfl rfl (PV_loadM1 rfl ag4 rfl (by first | exact m0 | exact m1 | exact m2 | exact m3 | exact m4 | exact m5 | exact mapp m0 | exact mapp m1 | exact mapp m2 | exact mapp m3) (by first | exact tc_34 | exact tc_35 | exact tc_36 | exact tc_0 | exact tc_1 | rfl)) hs ?_
  refine RL.done (nxt ?_)
  repeat first | apply W.seq | apply W.region
  refine W.cond rfl (fun h2 => ?_) (fun h2 => ?_)
  · cases h2
  refine W.skip (nxt ?_)
  repeat first | apply W.seq | apply W.region
  refine RL.e rfl rfl rfl (EF_bs0 rfl el60 hs) ?_
  rintro r1 w1 ⟨b23, rfl, hs1⟩
  refine RL.p rfl rfl rfl (PV_move rfl rfl) ?_
  refine RL.p rfl rfl rfl (PV_nilCheckP rfl rfl) ?_
  refine RL.p rfl rfl rfl (by first | exact PV_fieldAddr0 rfl rfl fa209_0 | exact PV_fieldAddr rfl rfl fa209_0) ?_
  refine RL.s rfl rfl rfl (PV_loadM1 rfl ag60 rfl (by first | exact m0 | exact m1 | exact m2 | exact m3 | exact m4 | exact m5 | exact mapp m0 | exact mapp m1 | exact mapp m2 | exact mapp m3) (by first | exact tc_34 | exact tc_35 | exact tc_36 | exact tc_0 | exact tc_1 | rfl)) hs1 ?_
  refine RL.p rfl rfl rfl (PV_move rfl rfl) ?_
  refine RL.p rfl rfl rfl (PV_sliceHi (r := n) rfl Tryz.underlying60 sz5 rfl rfl rfl (by rw [List.length_append] at hcl; omega)) ?_
  refine RL.e rfl rfl rfl (EF_append (l := 0) (m := n) (olds := []) (news := bcells l1) rfl el60 rfl rfl (OwnS.lit (m := 0) rfl) rfl (by rw [← hn]; exact SlI.rd hpre hs1.tail) (one1_bcells _) (by rw [List.length_append] at hl; omega) (by decide) hs1) ?_
  rintro r2 w2 ⟨L2, ho2, hs2⟩
  obtain ⟨J, hj, hv2, hs3⟩ := OwnS.freeze (m := n) (sz := 1) ho2 (by simp [length_bcells, hn]) (by decide) hs2
  refine RL.p rfl rfl rfl (PV_assign rfl rfl) ?_
  refine RL.done (nxt ?_)
  repeat first | apply W.seq | apply W.region
  refine RL.p rfl rfl rfl (PV_move rfl rfl) ?_
  refine RL.p rfl rfl rfl (PV_move rfl rfl) ?_
  refine RL.p rfl rfl rfl (PV_nilCheckP rfl rfl) ?_
  refine RL.p rfl rfl rfl (by first | exact PV_fieldAddr0 rfl rfl fa209_0 | exact PV_fieldAddr rfl rfl fa209_0) ?_
  refine RL.s rfl rfl rfl (PV_loadM1 rfl ag60 rfl (by first | exact m0 | exact m1 | exact m2 | exact m3 | exact m4 | exact m5 | exact mapp m0 | exact mapp m1 | exact mapp m2 | exact mapp m3) (by first | exact tc_34 | exact tc_35 | exact tc_36 | exact tc_0 | exact tc_1 | rfl)) hs3 ?_
  refine RL.p rfl rfl rfl (PV_move rfl rfl) ?_
  refine RL.p rfl rfl rfl (PV_sliceG (p := n) rfl Tryz.underlying60 sz5 rfl rfl rfl (by simp; omega)) ?_
  refine RL.p rfl rfl rfl (PV_nilCheckP rfl rfl) ?_
  refine RL.p rfl rfl rfl (by first | exact PV_fieldAddr0 rfl rfl fa209_0 | exact PV_fieldAddr rfl rfl fa209_0) ?_
  refine RL.e0 rfl rfl (EF_storeC (cs := [.slice A (l1 ++ l2).length c, .bool false]) rfl rfl rfl sz60 rfl (Nat.zero_lt_succ _) rfl hs3 (by first | exact u0 | exact u1 | exact u2 | exact u3 | exact u4 | exact u5 | exact u0.app | exact u1.app | exact u2.app | exact u3.app)) ?_
  rintro r3 w3 hs4
  refine RL.done (nxt ?_)
  repeat first | apply W.seq | apply W.region
  refine RL.p rfl rfl rfl (PV_move rfl rfl) ?_
  refine RL.p rfl rfl rfl (PV_assign rfl rfl) ?_
  refine RL.done (nxt ?_)
  repeat first | apply W.seq | apply W.region
  exact W.ret (ret_tmp rfl rfl ⟨_, rfl, J, _, hj, by subst hn; exact hv2, by subst hn; exact hsuf.le hj, hs4⟩)

theorem C119 {xb : Nat} {v : Value} {u : Nat} {l : List UInt8} (hu : u < 2 ^ 40) (hl : (numB u ++ l).length ≤ 2 ^ 40) (hv : SlB I v (numB u ++ l)) (hs : Sat G ((xb, [v, .bool false], 209) :: M) I w) : Calls Tryz.prog 119 #[ptr xb 0] w (Ret fun r w' => ∃ J v', Le I J ∧ r = .int .i64 (u : Int) ∧ SlB J v' l ∧ Sat G ((xb, [v', .bool false], 209) :: M) J w') := by
  refine enter1 Tryz.func119 rfl Tryz.ntmps119 rfl ?_
  repeat first | apply W.seq | apply W.region
  refine RL.p rfl rfl rfl (PV_assign rfl rfl) ?_
  refine RL.done (nxt ?_)
  repeat first | apply W.seq | apply W.region
  refine RL.p rfl rfl rfl (PV_assign rfl rfl) ?_
  refine RL.done (nxt ?_)
  repeat first | apply W.seq | apply W.region
  refine RL.p rfl rfl rfl (PV_assign rfl rfl) ?_
  refine RL.done (nxt ?_)
  repeat first | apply W.seq | apply W.region
  refine W.block ?_
  repeat first | apply W.seq | apply W.region
  refine W.loop (F := fun z : Nat × Nat => [(4, .int .i64 (z.1 : Int)), (3, .int .u64 (z.2 : Int)), (0, ptr xb 0)]) (J := fun z w => z.1 ≤ 5 ∧ z.2 = u % 128 ^ z.1 ∧ (0 < z.1 → 0 < u / 128 ^ z.1) ∧ ∃ J v, Le I J ∧ SlB J v (numB (u / 128 ^ z.1) ++ l) ∧ Sat G ((xb, [v, .bool false], 209) :: M) J w) (m := fun z => 6 - z.1) (0, 0) (by repeat first | exact Sub.nil | refine Sub.cons rfl ?_) ⟨by omega, by simp [Nat.mod_one], fun h => absurd h (by omega), I, v, Le.refl I, by simpa using hv, hs⟩ ?_
  rintro ⟨i, acc⟩ w1 ⟨hi, hacc, hpos, J, v, hj, hv, hs1⟩
  repeat first | apply W.seq | apply W.region
  refine RL.p rfl rfl rfl (PV_move rfl rfl) ?_
  refine RL.p rfl rfl rfl (PV_lss rfl rfl rfl) ?_
  refine RL.done (nxt ?_)
  repeat first | apply W.seq | apply W.region
  refine W.cond rfl (fun h1 => ?_) (fun h1 => ?_)
  rotate_left
  · exact absurd (of_decide_eq_false h1) (by omega)
  dsimp only at hi hacc hpos hv hs1
  subst hacc
  obtain ⟨q, hq⟩ : ∃ q, q = u / 128 ^ i := ⟨_, rfl⟩
  obtain ⟨c, t, hnum, hc1, hclt, hcge⟩ := numB_cons q
  rw [← hq] at hpos hv
  rw [hnum] at hv
  have hp : (128 : Nat) ^ i = 2 ^ (7 * i) := by rw [Nat.pow_mul]
  have hp5 : 2 ^ (7 * i) ≤ 2 ^ 35 := Nat.pow_le_pow_right (by decide) (by omega)
  have hc128 : (c &&& 127).toNat < 128 := by rw [hc1]; omega
  have hsh : (c &&& 127).toNat * 2 ^ (7 * i) < 18446744073709551616 := by
    have := Nat.mul_le_mul (Nat.le_of_lt hc128) hp5
    omega
  have hor : u % 128 ^ i ||| (c &&& 127).toNat * 2 ^ (7 * i) = u % 128 ^ (i + 1) := by
    rw [hc1, Nat.pow_succ, Nat.mod_mul, ← hq, hp, Nat.or_comm, Nat.mul_comm, ← Nat.two_pow_add_eq_or_of_lt (Nat.mod_lt _ (Nat.two_pow_pos _)), Nat.add_comm]
  have hnx : u / 128 ^ (i + 1) = q / 128 := by rw [hq, Nat.pow_succ, Nat.div_div_eq_div_mul]
  have hml : u % 128 ^ (i + 1) ≤ u := Nat.mod_le _ _
  have hml2 : u % 128 ^ i ≤ u := Nat.mod_le _ _
  have hi5 : 128 ≤ q → i + 1 ≤ 5 := fun h => by
    by_cases h5 : i = 5
    · subst h5; omega
    · omega
  have hlen : ([c] ++ (t ++ l)).length ≤ 2 ^ 41 := by
    have h1 : (c :: t).length ≤ 6 := by rw [← hnum]; exact length_numB40 (by rw [hq]; exact Nat.lt_of_le_of_lt (Nat.div_le_self _ _) hu)
    simp at h1 hl ⊢
    omega
  refine W.skip  (nxt ?_)
  repeat first | apply W.seq | apply W.region
  refine W.cut (fun _ : Unit => [(3, .int .u64 ((u % 128 ^ (i + 1) : Nat) : Int)), (4, .int .i64 (i : Int)), (0, ptr xb 0)]) (fun _ w => i + 1 ≤ 5 ∧ 0 < u / 128 ^ (i + 1) ∧ ∃ J v, Le I J ∧ SlB J v (numB (u / 128 ^ (i + 1)) ++ l) ∧ Sat G ((xb, [v, .bool false], 209) :: M) J w) ?_ ?_
  ·
    repeat first | apply W.seq | apply W.region
    refine W.block ?_
    repeat first | apply W.seq | apply W.region
    refine RL.p rfl rfl rfl (PV_move rfl rfl) ?_
    refine RL.e rfl rfl rfl (K2 rfl fn142 rfl rfl (C142 (n := 1) (l1 := [c]) (l2 := t ++ l) rfl hlen hv hs1)) ?_
    rintro r2 w2 ⟨J2, v2, hj2, hr2, hv2, hs2⟩
    obtain ⟨zb, zo, zc, rfl, _, hmr⟩ := SlI.mem hr2 (Nat.zero_lt_succ _)
    refine RL.p rfl rfl rfl (PV_assign rfl rfl) ?_
    refine RL.done (nxt ?_)
    repeat first | apply W.seq | apply W.region
    refine RL.p rfl rfl rfl (PV_move rfl rfl) ?_
    refine RL.p rfl rfl rfl (PV_nilCheckP rfl rfl) ?_
    refine RL.p rfl rfl rfl (by first | exact PV_fieldAddr0 rfl rfl fa209_1 | exact PV_fieldAddr rfl rfl fa209_1) ?_
    refine RL.s rfl rfl rfl (PV_loadM1 rfl ag4 rfl (by first | exact m0 | exact m1 | exact m2 | exact m3 | exact m4 | exact m5 | exact mapp m0 | exact mapp m1 | exact mapp m2 | exact mapp m3) (by first | exact tc_34 | exact tc_35 | exact tc_36 | exact tc_0 | exact tc_1 | rfl)) hs2 ?_
    refine RL.done (nxt ?_)
    repeat first | apply W.seq | apply W.region
    refine W.cond rfl (fun h2 => ?_) (fun h2 => ?_)
    · cases h2
    refine W.skip (nxt ?_)
    repeat first | apply W.seq | apply W.region
    refine RL.p rfl rfl rfl (PV_move rfl rfl) ?_
    refine RL.p rfl rfl rfl (PV_indexAddr1 0 rfl Tryz.underlying60 sz5 rfl rfl rfl (Nat.zero_lt_succ _)) ?_
    refine RL.s rfl rfl rfl (PV_loadMem1 (j := 0) rfl ag5 rfl (fun _ h => h) (hmr _ _) rfl) hs2 ?_
    refine RL.p rfl rfl rfl (PV_assign rfl rfl) ?_
    refine RL.done (nxt ?_)
    repeat first | apply W.seq | apply W.region
    refine RL.p rfl rfl rfl (PV_move rfl rfl) ?_
    refine RL.p rfl rfl rfl (PV_eqi rfl rfl rfl) ?_
    refine RL.p rfl rfl rfl (PV_move rfl rfl) ?_
    refine RL.split 22 rfl (fun g1 => by exact absurd (of_decide_eq_true g1) (by omega)) (fun g1 => ?_)
    refine RL.gk rfl rfl rfl rfl g1 rfl rfl rfl ?_
    refine RL.gk rfl rfl rfl rfl g1 rfl rfl rfl ?_
    refine RL.p rfl rfl rfl (PV_pickF rfl rfl g1 rfl) ?_
    refine RL.done (nxt ?_)
    repeat first | apply W.seq | apply W.region
    refine W.cond rfl (fun h3 => ?_) (fun h3 => ?_)
    · cases h3
    refine W.skip (nxt ?_)
    repeat first | apply W.seq | apply W.region
    refine RL.p rfl rfl rfl (PV_move rfl rfl) ?_
    refine RL.p rfl rfl rfl (PV_eqi rfl rfl rfl) ?_
    refine RL.p rfl rfl rfl (PV_move rfl rfl) ?_
    refine RL.split 28 rfl (fun g2 => by exact absurd (of_decide_eq_true g2) (by omega)) (fun g2 => ?_)
    refine RL.gk rfl rfl rfl rfl g2 rfl rfl rfl ?_
    refine RL.gk rfl rfl rfl rfl g2 rfl rfl rfl ?_
    refine RL.p rfl rfl rfl (PV_pickF rfl rfl g2 rfl) ?_
    refine RL.done (nxt ?_)
    repeat first | apply W.seq | apply W.region
    refine W.cond rfl (fun h4 => ?_) (fun h4 => ?_)
    · cases h4
    refine W.skip (nxt ?_)
    repeat first | apply W.seq | apply W.region
    refine RL.p rfl rfl rfl (PV_move rfl rfl) ?_
    refine RL.p rfl rfl rfl (PV_move rfl rfl) ?_
    refine RL.p rfl rfl rfl (PV_u8_and (q := 127) rfl rfl rfl) ?_
    refine RL.p rfl rfl rfl (PV_conv_u8_u64 rfl Tryz.underlying5 Tryz.underlying161 rfl) ?_
    refine RL.p rfl rfl rfl (PV_move rfl rfl) ?_
    refine RL.p rfl rfl rfl (PV_mul rfl rfl rfl (by omega)) ?_
    refine RL.p rfl rfl rfl (PV_conv_i64_u64 (m := 7 * i) rfl Tryz.underlying3 Tryz.underlying113 rfl (by omega) (by omega)) ?_
    refine RL.p rfl rfl rfl (PV_u64_shl (m := (c &&& 127).toNat) (j := 7 * i) rfl rfl rfl rfl rfl (by omega) hsh) ?_
    refine RL.p rfl rfl rfl (PV_u64_orE (a := u % 128 ^ i) (b := (c &&& 127).toNat * 2 ^ (7 * i)) (r := u % 128 ^ (i + 1)) rfl rfl rfl rfl rfl (by omega) hsh hor) ?_
    refine RL.p rfl rfl rfl (PV_assign rfl rfl) ?_
    refine RL.done (nxt ?_)
    repeat first | apply W.seq | apply W.region
    refine RL.p rfl rfl rfl (PV_move rfl rfl) ?_
    refine RL.p rfl rfl rfl (PV_gtr rfl rfl rfl) ?_
    refine RL.done (nxt ?_)
    repeat first | apply W.seq | apply W.region
    refine W.cond rfl (fun h5 => ?_) (fun h5 => ?_)
    ·
      repeat first | apply W.seq | apply W.region
      refine W.exit (cut_end (F := (fun _ : Unit => [(3, .int .u64 ((u % 128 ^ (i + 1) : Nat) : Int)), (4, .int .i64 (i : Int)), (0, ptr xb 0)])) (J := (fun _ w => i + 1 ≤ 5 ∧ 0 < u / 128 ^ (i + 1) ∧ ∃ J v, Le I J ∧ SlB J v (numB (u / 128 ^ (i + 1)) ++ l) ∧ Sat G ((xb, [v, .bool false], 209) :: M) J w)) () ?_ ?_)
      · repeat first | exact Sub.nil | refine Sub.cons rfl ?_
      · exact ⟨hi5 (by have := of_decide_eq_true h5; omega), by rw [hnx]; have := of_decide_eq_true h5; omega, J2, v2, hj.trans hj2, by rw [hnx]; have := of_decide_eq_true h5; rw [(hcge (by omega)).2] at hv2; exact hv2, hs2⟩
    have hq128 : q < 128 := by
      have h5f := of_decide_eq_false h5
      by_cases h : 128 ≤ q
      · have := (hcge h).1; omega
      · omega
    have hfin : u % 128 ^ (i + 1) = u := by
      apply Nat.mod_eq_of_lt
      rw [Nat.pow_succ, Nat.mul_comm]
      exact (Nat.div_lt_iff_lt_mul (Nat.pow_pos (by decide))).1 (hq ▸ hq128)
    rw [(hclt hq128).2] at hv2
    refine W.skip (nxt ?_)
    repeat refine W.seq ?_
    refine W.cut (fun b : Bool => [(52, .bool b), (3, .int .u64 ((u % 128 ^ (i + 1) : Nat) : Int)), (0, ptr xb 0)]) (fun b w => b = false ∧ Sat G ((xb, [v2, .bool false], 209) :: M) J2 w) ?_ ?_
    ·
      refine W.region ?_
      refine RL.p rfl rfl rfl (PV_move rfl rfl) ?_
      refine RL.p rfl rfl rfl (PV_gtr rfl rfl rfl) ?_
      refine RL.p rfl rfl rfl (PV_move rfl rfl) ?_
      refine RL.split 45 rfl (fun g3 => ?_) (fun g3 => ?_)
      ·
        refine RL.gp rfl rfl rfl rfl g3 rfl rfl rfl (PV_move rfl rfl) ?_
        refine RL.gp rfl rfl rfl rfl g3 rfl rfl rfl (PV_eqi rfl rfl rfl) ?_
        refine RL.p rfl rfl rfl (PV_pickT rfl rfl g3 rfl) ?_
        refine RL.p rfl rfl rfl (PV_move rfl rfl) ?_
        refine RL.split 49 rfl (fun g4 => by exact absurd (of_decide_eq_true g4) (by have := of_decide_eq_true g3; have := hpos (by omega); have := (hclt hq128).1; omega)) (fun g4 => ?_)
        refine RL.gp rfl rfl rfl rfl g4 rfl rfl rfl (PV_move rfl rfl) ?_
        refine RL.gp rfl rfl rfl rfl g4 rfl rfl rfl (PV_gtr rfl rfl rfl) ?_
        refine RL.p rfl rfl rfl (PV_pickF rfl rfl g4 rfl) ?_
        exact RL.done (cut_end (F := (fun b : Bool => [(52, .bool b), (3, .int .u64 ((u % 128 ^ (i + 1) : Nat) : Int)), (0, ptr xb 0)])) (J := (fun b w => b = false ∧ Sat G ((xb, [v2, .bool false], 209) :: M) J2 w)) _ (by repeat first | exact Sub.nil | refine Sub.cons rfl ?_) (by exact (by exact ⟨decide_eq_false (by omega), hs2⟩)))
      ·
        refine RL.gk rfl rfl rfl rfl g3 rfl rfl rfl ?_
        refine RL.gk rfl rfl rfl rfl g3 rfl rfl rfl ?_
        refine RL.p rfl rfl rfl (PV_pickF rfl rfl g3 rfl) ?_
        refine RL.p rfl rfl rfl (PV_move rfl rfl) ?_
        refine RL.gp rfl rfl rfl rfl rfl rfl rfl rfl (PV_move rfl rfl) ?_
        refine RL.gp rfl rfl rfl rfl rfl rfl rfl rfl (PV_gtr rfl rfl rfl) ?_
        refine RL.p rfl rfl rfl (PV_pickF rfl rfl rfl rfl) ?_
        exact RL.done (cut_end (F := (fun b : Bool => [(52, .bool b), (3, .int .u64 ((u % 128 ^ (i + 1) : Nat) : Int)), (0, ptr xb 0)])) (J := (fun b w => b = false ∧ Sat G ((xb, [v2, .bool false], 209) :: M) J2 w)) _ (by repeat first | exact Sub.nil | refine Sub.cons rfl ?_) (by exact (by exact ⟨decide_eq_false (by omega), hs2⟩)))
    rintro b w102 ⟨rfl, hs102⟩
    refine nxt ?_
    repeat first | apply W.seq | apply W.region
    refine W.cond rfl (fun h6 => ?_) (fun h6 => ?_)
    · cases h6
    refine W.skip (nxt ?_)
    repeat first | apply W.seq | apply W.region
    refine RL.p rfl rfl rfl (PV_move rfl rfl) ?_
    refine RL.p rfl rfl rfl (PV_conv_u64_i64 (m := u % 128 ^ (i + 1)) rfl Tryz.underlying161 Tryz.underlying3 rfl rfl (by omega)) ?_
    refine RL.p rfl rfl rfl (PV_assign rfl rfl) ?_
    refine RL.done (nxt ?_)
    repeat first | apply W.seq | apply W.region
    exact W.ret (ret_tmp rfl rfl ⟨_, rfl, J2, v2, hj.trans hj2, by rw [hfin], hv2, hs102⟩)
  rintro _ w101 ⟨hi5, hpos2, J2, v2, hj2, hv2, hs101⟩
  refine nxt ?_
  repeat first | apply W.seq | apply W.region
  refine RL.p rfl rfl rfl (PV_move rfl rfl) ?_
  refine RL.p rfl rfl rfl (PV_add rfl rfl rfl (by omega)) ?_
  refine RL.p rfl rfl rfl (PV_assign rfl rfl) ?_
  refine RL.done (round_end (i + 1, u % 128 ^ (i + 1)) ?_ ?_ ?_)
  · repeat first | exact Sub.nil | refine Sub.cons rfl ?_
  · exact ⟨hi5, rfl, fun _ => hpos2, J2, v2, hj2, hv2, hs101⟩
  · first | omega | (dsimp only; omega)

theorem C149 {xb : Nat} {v : Value} {l1 l2 : List UInt8} (h1 : l1.length < 2 ^ 30) (hl : (numB l1.length ++ (l1 ++ l2)).length ≤ 2 ^ 40) (hv : SlB I v (numB l1.length ++ (l1 ++ l2))) (hs : Sat G ((xb, [v, .bool false], 209) :: M) I w) : Calls Tryz.prog 149 #[ptr xb 0] w (Ret fun r w' => ∃ J v', Le I J ∧ SlB J r l1 ∧ SlB J v' l2 ∧ Sat G ((xb, [v', .bool false], 209) :: M) J w') := by
  refine enter1 Tryz.func149 rfl Tryz.ntmps149 rfl ?_
  repeat first | apply W.seq | apply W.region
  refine RL.p rfl rfl rfl (PV_assign rfl rfl) ?_
  refine RL.done (nxt ?_)
  repeat first | apply W.seq | apply W.region
  refine RL.p rfl rfl rfl (PV_move rfl rfl) ?_
  refine RL.e rfl rfl rfl (K1 rfl fn119 rfl (C119 (u := l1.length) (by omega) hl hv hs)) ?_
  rintro r1 w1 ⟨J1, v1, hj1, rfl, hv1, hs1⟩
  refine RL.p rfl rfl rfl (PV_assign rfl rfl) ?_
  refine RL.done (nxt ?_)
  repeat first | apply W.seq | apply W.region
  refine RL.p rfl rfl rfl (PV_move rfl rfl) ?_
  refine RL.p rfl rfl rfl (PV_nilCheckP rfl rfl) ?_
  refine RL.p rfl rfl rfl (by first | exact PV_fieldAddr0 rfl rfl fa209_1 | exact PV_fieldAddr rfl rfl fa209_1) ?_
  refine RL.s rfl rfl rfl (PV_loadM1 rfl ag4 rfl (by first | exact m0 | exact m1 | exact m2 | exact m3 | exact m4 | exact m5 | exact mapp m0 | exact mapp m1 | exact mapp m2 | exact mapp m3) (by first | exact tc_34 | exact tc_35 | exact tc_36 | exact tc_0 | exact tc_1 | rfl)) hs1 ?_
  refine RL.done (nxt ?_)
  repeat first | apply W.seq | apply W.region
  refine W.cond rfl (fun h1 => ?_) (fun h1 => ?_)
  · cases h1
  refine W.skip (nxt ?_)
  repeat first | apply W.seq | apply W.region
  refine RL.p rfl rfl rfl (PV_move rfl rfl) ?_
  refine RL.p rfl rfl rfl (PV_move rfl rfl) ?_
  refine RL.e rfl rfl rfl (K2 rfl fn142 rfl rfl (C142 (n := l1.length) (l1 := l1) (l2 := l2) rfl (by rw [List.length_append] at hl; omega) hv1 hs1)) ?_
  rintro r2 w2 ⟨J2, v2, hj2, hr2, hv2, hs2⟩
  refine RL.p rfl rfl rfl (PV_assign rfl rfl) ?_
  refine RL.done (nxt ?_)
  repeat first | apply W.seq | apply W.region
  exact W.ret (ret_tmp rfl rfl ⟨_, rfl, J2, v2, hj1.trans hj2, hr2, hv2, hs2⟩)

theorem C146 {xb : Nat} {v : Value} (hv : SlB I v []) (hs : Sat G ((xb, [v, .bool false], 209) :: M) I w) : Calls Tryz.prog 146 #[ptr xb 0] w (Ret fun r w' => r = .bool true ∧ Sat G ((xb, [v, .bool false], 209) :: M) I w') := by
  obtain ⟨A, c, rfl, hc⟩ := SlI.shape hv
  refine enter1 Tryz.func146 rfl Tryz.ntmps146 rfl ?_
  repeat first | apply W.seq | apply W.region
  refine RL.p rfl rfl rfl (PV_assign rfl rfl) ?_
  refine RL.done (nxt ?_)
  repeat first | apply W.seq | apply W.region
  refine RL.p rfl rfl rfl (PV_move rfl rfl) ?_
  refine RL.p rfl rfl rfl (PV_nilCheckP rfl rfl) ?_
  refine RL.p rfl rfl rfl (by first | exact PV_fieldAddr0 rfl rfl fa209_1 | exact PV_fieldAddr rfl rfl fa209_1) ?_
  refine RL.s rfl rfl rfl (PV_loadM1 rfl ag4 rfl (by first | exact m0 | exact m1 | exact m2 | exact m3 | exact m4 | exact m5 | exact mapp m0 | exact mapp m1 | exact mapp m2 | exact mapp m3) (by first | exact tc_34 | exact tc_35 | exact tc_36 | exact tc_0 | exact tc_1 | rfl)) hs ?_
  refine RL.p rfl rfl rfl (PV_not rfl rfl) ?_
  refine RL.p rfl rfl rfl (PV_move rfl rfl) ?_
  refine RL.split 8 rfl (fun g1 => ?_) (fun g1 => by cases g1)
  refine RL.gp rfl rfl rfl rfl g1 rfl rfl rfl (PV_move rfl rfl) ?_
  refine RL.gp rfl rfl rfl rfl g1 rfl rfl rfl (PV_nilCheckP rfl rfl) ?_
  refine RL.gp rfl rfl rfl rfl g1 rfl rfl rfl (by first | exact PV_fieldAddr0 rfl rfl fa209_0 | exact PV_fieldAddr rfl rfl fa209_0) ?_
  refine RL.gs rfl rfl rfl rfl g1 rfl rfl rfl (PV_loadM1 rfl ag60 rfl (by first | exact m0 | exact m1 | exact m2 | exact m3 | exact m4 | exact m5 | exact mapp m0 | exact mapp m1 | exact mapp m2 | exact mapp m3) (by first | exact tc_34 | exact tc_35 | exact tc_36 | exact tc_0 | exact tc_1 | rfl)) hs ?_
  refine RL.gp rfl rfl rfl rfl g1 rfl rfl rfl (PV_len rfl Tryz.underlying60 rfl) ?_
  refine RL.gp rfl rfl rfl rfl g1 rfl rfl rfl (PV_eqi rfl rfl rfl) ?_
  refine RL.p rfl rfl rfl (PV_pickT rfl rfl g1 rfl) ?_
  refine RL.p rfl rfl rfl (PV_assign rfl rfl) ?_
  refine RL.done (nxt ?_)
  repeat first | apply W.seq | apply W.region
  exact W.ret (ret_tmp rfl rfl ⟨_, rfl, rfl, hs⟩)

theorem C118 {v : Value} {k : Nat} {l : List UInt8} (hk : k < 2 ^ 40) (hl : (numB k ++ l).length ≤ 2 ^ 40) (hv : SlB I v (numB k ++ l)) (hs : Sat G M I w) : Calls Tryz.prog 118 #[v, .int .i64 (k : Int)] w (Ret fun r w' => ∃ J xb v', Le I J ∧ r = ptr xb 0 ∧ SlB J v' l ∧ Sat G ((xb, [v', .bool false], 209) :: M) J w') := by
  obtain ⟨A, c, rfl, hc⟩ := SlI.shape hv
  refine enter2 Tryz.func118 rfl Tryz.ntmps118 rfl ?_
  repeat first | apply W.seq | apply W.region
  refine RL.p rfl rfl rfl (PV_assign rfl rfl) ?_
  refine RL.done (nxt ?_)
  repeat first | apply W.seq | apply W.region
  refine RL.p rfl rfl rfl (PV_move rfl rfl) ?_
  refine RL.p rfl rfl rfl (PV_buildS (cs := [.slice A (numB k ++ l).length c, .bool false]) rfl pl209 zr209 rfl rfl) ?_
  refine RL.e rfl rfl rfl (EF_boxA rfl rfl hs) ?_
  rintro r1 w1 ⟨b8, rfl, hs1⟩
  refine RL.p rfl rfl rfl (PV_assign rfl rfl) ?_
  refine RL.done (nxt ?_)
  repeat first | apply W.seq | apply W.region
  refine RL.p rfl rfl rfl (PV_move rfl rfl) ?_
  refine RL.e rfl rfl rfl (K1 rfl fn119 rfl (C119 hk hl hv hs1)) ?_
  rintro r2 w2 ⟨J2, v2, hj2, rfl, hv2, hs2⟩
  refine RL.p rfl rfl rfl (PV_move rfl rfl) ?_
  refine RL.p rfl rfl rfl (PV_nei rfl rfl rfl) ?_
  refine RL.done (nxt ?_)
  repeat first | apply W.seq | apply W.region
  refine W.cond rfl (fun h1 => ?_) (fun h1 => ?_)
  · exact absurd rfl (of_decide_eq_true h1)
  refine W.skip (nxt ?_)
  repeat first | apply W.seq | apply W.region
  refine RL.p rfl rfl rfl (PV_move rfl rfl) ?_
  refine RL.p rfl rfl rfl (PV_assign rfl rfl) ?_
  refine RL.done (nxt ?_)
  repeat first | apply W.seq | apply W.region
  exact W.ret (ret_tmp rfl rfl ⟨_, rfl, J2, _, v2, hj2, rfl, hv2, hs2⟩)

theorem C122 {xb : Nat} {v b c : Value} {l : List UInt8} (hv : SlB I v []) (hb : SlM G ((xb, [v, .bool false], 209) :: M) I 1 b l.length (bcells l)) (hc : SlM G ((xb, [v, .bool false], 209) :: M) I 1 c l.length (bcells l)) (hs : Sat G ((xb, [v, .bool false], 209) :: M) I w) : Calls Tryz.prog 122 #[ptr xb 0, b, c, .int .i64 0] w (Ret fun r w' => r = .bool true ∧ Sat G ((xb, [v, .bool false], 209) :: M) I w') := by
  refine enter4 Tryz.func122 rfl Tryz.ntmps122 rfl ?_
  repeat first | apply W.seq | apply W.region
  refine RL.p rfl rfl rfl (PV_assign rfl rfl) ?_
  refine RL.done (nxt ?_)
  repeat first | apply W.seq | apply W.region
  refine RL.p rfl rfl rfl (PV_move rfl rfl) ?_
  refine RL.e rfl rfl rfl (K1 rfl fn146 rfl (C146 hv hs)) ?_
  rintro r1 w1 ⟨rfl, hs1⟩
  refine RL.p rfl rfl rfl (PV_move rfl rfl) ?_
  refine RL.split 11 rfl (fun g1 => ?_) (fun g1 => by cases g1)
  refine RL.gp rfl rfl rfl rfl g1 rfl rfl rfl (PV_move rfl rfl) ?_
  refine RL.gp rfl rfl rfl rfl g1 rfl rfl rfl (PV_eqi rfl rfl rfl) ?_
  refine RL.p rfl rfl rfl (PV_pickT rfl rfl g1 rfl) ?_
  refine RL.p rfl rfl rfl (PV_move rfl rfl) ?_
  refine RL.split 15 rfl (fun g2 => ?_) (fun g2 => by exact absurd (of_decide_eq_false g2) (by decide))
  refine RL.gp rfl rfl rfl rfl g2 rfl rfl rfl (PV_move rfl rfl) ?_
  refine RL.gs rfl rfl rfl rfl g2 rfl rfl rfl (PV_toStr (l := l) rfl Tryz.underlying60 Tryz.underlying9 Tryz.underlying5 rfl (fun _ h => h) hb) hs1 ?_
  refine RL.gp rfl rfl rfl rfl g2 rfl rfl rfl (PV_move rfl rfl) ?_
  refine RL.gs rfl rfl rfl rfl g2 rfl rfl rfl (PV_toStr (l := l) rfl Tryz.underlying60 Tryz.underlying9 Tryz.underlying5 rfl (fun _ h => h) hc) hs1 ?_
  refine RL.gp rfl rfl rfl rfl g2 rfl rfl rfl (PV_eqs rfl rfl rfl) ?_
  refine RL.p rfl rfl rfl (PV_pickT rfl rfl g2 rfl) ?_
  refine RL.p rfl rfl rfl (PV_assign rfl rfl) ?_
  refine RL.done (nxt ?_)
  repeat first | apply W.seq | apply W.region
  exact W.ret (ret_tmp rfl rfl ⟨_, rfl, (by simp), hs1⟩)

theorem C127 {xb : Nat} {v : Value} {s : ByteArray} {l : List UInt8} (h1 : s.size < 2 ^ 30) (hl : (rowB (sbytes s) ++ l).length ≤ 2 ^ 40) (hv : SlB I v (rowB (sbytes s) ++ l)) (hs : Sat G ((xb, [v, .bool false], 209) :: M) I w) : Calls Tryz.prog 127 #[ptr xb 0] w (Ret fun r w' => ∃ J v', Le I J ∧ r = .string s ∧ SlB J v' l ∧ Sat G ((xb, [v', .bool false], 209) :: M) J w') := by
  rw [rowB_eq (by rw [length_sbytes]; omega), List.append_assoc] at hl hv
  refine enter1 Tryz.func127 rfl Tryz.ntmps127 rfl ?_
  repeat first | apply W.seq | apply W.region
  refine RL.p rfl rfl rfl (PV_assign rfl rfl) ?_
  refine RL.done (nxt ?_)
  repeat first | apply W.seq | apply W.region
  refine RL.p rfl rfl rfl (PV_move rfl rfl) ?_
  refine RL.e rfl rfl rfl (K1 rfl fn149 rfl (C149 (l1 := sbytes s) (by rw [length_sbytes]; exact h1) hl hv hs)) ?_
  rintro r1 w1 ⟨J1, v1, hj1, hr1, hv1, hs1⟩
  refine RL.s rfl rfl rfl (PV_toStr (l := sbytes s) rfl Tryz.underlying60 Tryz.underlying9 Tryz.underlying5 rfl (fun _ h => h) (SlI.toM hr1)) hs1 ?_
  refine RL.p rfl rfl rfl (PV_assign rfl rfl) ?_
  refine RL.done (nxt ?_)
  repeat first | apply W.seq | apply W.region
  exact W.ret (ret_tmp rfl rfl ⟨_, rfl, J1, v1, hj1, rfl, hv1, hs1⟩)

theorem C123 {xb : Nat} {v : Value} {h l : List UInt8} (h32 : h.length = 32) (hl : (h ++ l).length ≤ 2 ^ 40) (hv : SlB I v (h ++ l)) (hs : Sat G ((xb, [v, .bool false], 209) :: M) I w) : Calls Tryz.prog 123 #[ptr xb 0] w (Ret fun r w' => ∃ J v', Le I J ∧ r = aggL (bcells h) ∧ SlB J v' l ∧ Sat G ((xb, [v', .bool false], 209) :: M) J w') := by
  refine enter1 Tryz.func123 rfl Tryz.ntmps123 rfl ?_
  repeat first | apply W.seq | apply W.region
  refine RL.e rfl rfl rfl (EF_allocA rfl zr24 hs) ?_
  rintro r1 w1 ⟨b2, rfl, hs1⟩
  refine RL.done (nxt ?_)
  repeat first | apply W.seq | apply W.region
  refine RL.e rfl rfl rfl (EF_allocA rfl zr24 hs1) ?_
  rintro r2 w2 ⟨b3, rfl, hs2⟩
  refine RL.done (nxt ?_)
  repeat first | apply W.seq | apply W.region
  refine W.drawsH (hs2.del x2) [(0, true), (1, false), (2, false), (3, false)] mixed (by kernel_rfl) (by kernel_rfl) ?_
  have hs3 := hs2.drew
  refine TW.p rfl rfl rfl rfl (PV_sliceArr rfl Tryz.underlying24 rfl sz5) ((hs3.del x2)) ?_
  refine TW.q rfl rfl rfl rfl (T := fun _ => True) (PV_move rfl rfl) trivial (fun _ => ((hs3.del x2))) ?_
  refine TW.e rfl rfl rfl rfl (K2 rfl fn142 rfl rfl (C142 (n := 32) (l1 := h) (l2 := l) h32 (by omega) hv (hs3.perm (M' := (xb, [v, .bool false], 209) :: (b3, zl24, 24) :: (b2, zl24, 24) :: M) (by classical exact List.perm_iff_count.2 fun a => by simp only [List.count_append, List.count_cons, List.count_nil]; ac_rfl)))) ?_
  rintro r4 w4 ⟨J4, v4, hj4, hr4, hv4, hs4⟩
  refine ⟨((hs4.tail.le hj4)), ?_⟩
  refine TW.en rfl rfl rfl rfl (by kernel_rfl) (EF_copyC (cs := zl24) (m := 32) (news := bcells h) (vs := bcells h) (cs' := bcells h) rfl el60 rfl rfl (by have := SlI.rd hr4 hs4; rw [h32] at this; exact this) (List.take_of_length_le (by rw [length_bcells, h32]; decide)) (one1_bcells _) (by rw [length_bcells, h32]; decide) (splice_whole (by rw [length_bcells, h32]; rfl)) hs4 (by first | exact u0 | exact u1 | exact u2 | exact u3 | exact u4 | exact u5 | exact u0.app | exact u1.app | exact u2.app | exact u3.app)) ?_
  rintro r5 w5 ⟨rfl, hs5⟩
  refine TW.done (nxt ?_)
  repeat first | apply W.seq | apply W.region
  refine RL.s rfl rfl rfl (PV_loadMA rfl ag24 sz24 rfl (by first | exact m0 | exact m1 | exact m2 | exact m3 | exact m4 | exact m5 | exact mapp m0 | exact mapp m1 | exact mapp m2 | exact mapp m3) (by rw [length_bcells, h32]; decide) (part_whole (by rw [length_bcells, h32]))) hs5 ?_
  refine RL.e0 rfl rfl (EF_storeA (cs := zl24) rfl rfl rfl sz24 (by rw [length_bcells, h32]; rfl) (one1_bcells _) hs5 (by first | exact u0 | exact u1 | exact u2 | exact u3 | exact u4 | exact u5 | exact u0.app | exact u1.app | exact u2.app | exact u3.app)) ?_
  rintro r6 w6 hs6
  refine RL.done (nxt ?_)
  repeat first | apply W.seq | apply W.region
  exact W.ret (ret_cell rfl rfl (ldA ag24 sz24 hs6 (by first | exact m0 | exact m1 | exact m2 | exact m3 | exact m4 | exact m5 | exact mapp m0 | exact mapp m1 | exact hm) (by rw [length_bcells, h32])) ⟨_, rfl, J4, v4, hj4, rfl, hv4, (hs6.del x1).del x1⟩)

end Go.Proofs.YtecbpmgfikgoaaaGreatDoor
