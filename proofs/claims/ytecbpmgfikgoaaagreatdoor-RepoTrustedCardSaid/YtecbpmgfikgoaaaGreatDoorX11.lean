/- Walks of functions 41: what each call gives back, and that it writes nothing of anybody else's. Conditions: as each theorem says. -/
import Derived.Test.YtecbpmgfikgoaaaGreatDoorX10
import Derived.Test.YtecbpmgfikgoaaaGreatDoorY0
set_option linter.unusedVariables false
set_option linter.unusedSimpArgs false
set_option maxRecDepth 8000
set_option maxHeartbeats 4000000
namespace Go.Proofs.YtecbpmgfikgoaaaGreatDoor
open Go Go.RowKit
variable {G w : World} {M : List Chunk} {I : Imm}

theorem rbody_eq {s : List UInt8} {i : Nat} (hi : i ≤ 2 ^ 20) : rbody s i = nums [1] ++ rootE ((i + 2 : Nat) : Int) 1073741824 (roleH (seedH s 0) (seedH s (i + 2))) := by
  unfold rbody bodyR optB
  rw [show ((i : Int) + 2) = ((i + 2 : Nat) : Int) by omega, if_pos]
  simp only [isVersionB, isNumB, Bool.and_eq_true, decide_eq_true_eq]
  omega
theorem ec_part {ecs : List Value} {i : Nat} {u mv : Value} (h0 : ecs[2 * i]? = some u) (h1 : ecs[2 * i + 1]? = some mv) : part ecs (i * 2) 2 = [u, mv] := by
  have h2 := (List.getElem?_eq_some_iff.1 h1).1
  have e0 := (List.getElem?_eq_some_iff.1 h0).2
  have e1 := (List.getElem?_eq_some_iff.1 h1).2
  rw [part, Nat.mul_comm i 2, List.drop_eq_getElem_cons (by omega), List.drop_eq_getElem_cons (by omega), e0, e1]
  rfl
theorem rootE_len {n : Nat} {hh : Nat → List UInt8} (hn : n ≤ 2 ^ 20) (h32 : ∀ j, j < 4 → (hh j).length = 32) : (nums [1] ++ rootE (n : Int) 1073741824 hh).length ≤ 2 ^ 40 := by
  have e1 := len_num (x := 1) (by decide) (by decide)
  have e2 := len_num (x := (n : Int)) (by omega) (by omega)
  have e3 := len_num (x := 1073741824) (by decide) (by decide)
  have e4 := len_rolesR h32 4 0 rfl
  rw [root_split]
  simp only [List.length_append]
  omega

theorem C41 {s : List UInt8} {v m now : Nat} {rv : Value} {ecs : List Value} {ks0 : Nat → Value} (hv1 : 1 ≤ v) (hvm : v ≤ m + 1) (hm : m ≤ 16) (hnow : now < 1073741824) (hks0 : ∀ j, j < 4 → SlI I 32 (ks0 j) 1 (bcells (roleH (seedH s 0) (seedH s v) j))) (hr : SlI I 2 rv m ecs) (hec : rootOk I s ecs m) (hs : Sat G M I w) : Calls Tryz.prog 41 #[aggL (rcells (v : Int) 1073741824 ks0), rv, .int .i64 (now : Int)] w (Ret fun r w' => ∃ J ks, Le I J ∧ r = .tuple #[aggL (rcells ((m + 1 : Nat) : Int) 1073741824 ks), .int .i64 0] ∧ (∀ j, j < 4 → SlI J 32 (ks j) 1 (bcells (roleH (seedH s 0) (seedH s (m + 1)) j))) ∧ Sat G M J w') := by
  obtain ⟨A, c, rfl, hc⟩ := hr.shape
  refine enter3 Tryz.func41 rfl Tryz.ntmps41 rfl ?_
  repeat first | apply W.seq | apply W.region
  refine RL.e rfl rfl rfl (EF_boxA rfl rfl hs) ?_
  rintro r1 w1 ⟨b3, rfl, hs1⟩
  refine RL.e rfl rfl rfl (EF_allocA rfl zr42 hs1) ?_
  rintro r2 w2 ⟨b6, rfl, hs2⟩
  refine RL.p rfl rfl rfl (PV_assign rfl rfl) ?_
  refine RL.done (nxt ?_)
  repeat first | apply W.seq | apply W.region
  refine RL.p rfl rfl rfl (PV_assign rfl rfl) ?_
  refine RL.done (nxt ?_)
  repeat first | apply W.seq | apply W.region
  refine W.block ?_
  repeat first | apply W.seq | apply W.region
  refine W.loop (F := fun i : Nat => [(8, .int .i64 (i : Int)), (3, ptr b3 0), (6, ptr b6 0), (1, .slice A m c), (2, .int .i64 (now : Int)), (7, .int .i64 0)]) (J := fun i w => i ≤ m ∧ ∃ J ks, Le I J ∧ (∀ j, j < 4 → SlI J 32 (ks j) 1 (bcells (roleH (seedH s 0) (seedH s (max v (i + 1))) j))) ∧ Sat G ((b6, zl42, 42) :: (b3, rcells ((max v (i + 1) : Nat) : Int) 1073741824 ks, 42) :: M) J w) (m := fun i => m - i) 0 (by repeat first | exact Sub.nil | refine Sub.cons rfl ?_) ⟨by omega, I, ks0, Le.refl I, by rw [show max v (0 + 1) = v by omega]; exact hks0, by rw [show max v (0 + 1) = v by omega]; exact hs2⟩ ?_
  rintro i w3 ⟨hi, J3, ks3, hj3, hks3, hs3⟩
  repeat first | apply W.seq | apply W.region
  refine RL.p rfl rfl rfl (PV_move rfl rfl) ?_
  refine RL.p rfl rfl rfl (PV_move rfl rfl) ?_
  refine RL.p rfl rfl rfl (PV_len rfl Tryz.underlying59 rfl) ?_
  refine RL.p rfl rfl rfl (PV_lss rfl rfl rfl) ?_
  refine RL.done (nxt ?_)
  repeat first | apply W.seq | apply W.region
  refine W.cond rfl (fun h1 => ?_) (fun h1 => ?_)
  ·
    have hi1 : i < m := by have := of_decide_eq_true h1; omega
    obtain ⟨bb, off, c1, hab, hc1, hmem⟩ := hr.mem (by omega)
    simp only [Value.slice.injEq] at hab
    obtain ⟨rfl, -, rfl⟩ := hab
    obtain ⟨u, mv, hu, hmv, he⟩ := hec.2 i hi1
    rw [rbody_eq (by omega)] at he
    have hh32 : ∀ j, j < 4 → (roleH (seedH s 0) (seedH s (i + 2)) j).length = 32 := fun j _ => length_roleH _ _ j
    have hver : isVersionB ((i + 2 : Nat) : Int) = true := by simp only [isVersionB, Bool.and_eq_true, decide_eq_true_eq]; omega
    have hexp : isNumB 1073741824 = true := rfl
    have hmx : ((i + 2 : Nat) : Int) ≤ ((max v (i + 1) : Nat) : Int) → max v (i + 2) = max v (i + 1) := fun h => by omega
    have hmy : ¬ ((i + 2 : Nat) : Int) ≤ ((max v (i + 1) : Nat) : Int) → max v (i + 2) = i + 2 := fun h => by omega
    refine W.skip (nxt ?_)
    repeat first | apply W.seq | apply W.region
    refine W.cut (fun _ : Unit => [(8, .int .i64 (i : Int)), (3, ptr b3 0), (6, ptr b6 0), (1, .slice (some ⟨bb, off, none⟩) m c), (2, .int .i64 (now : Int)), (7, .int .i64 0)]) (fun _ w => ∃ J ks, Le I J ∧ (∀ j, j < 4 → SlI J 32 (ks j) 1 (bcells (roleH (seedH s 0) (seedH s (max v (i + 2))) j))) ∧ Sat G ((b6, zl42, 42) :: (b3, rcells ((max v (i + 2) : Nat) : Int) 1073741824 ks, 42) :: M) J w) ?_ ?_
    ·
      repeat first | apply W.seq | apply W.region
      refine W.block ?_
      repeat first | apply W.seq | apply W.region
      refine RL.p rfl rfl rfl (PV_move rfl rfl) ?_
      refine RL.p rfl rfl rfl (PV_move rfl rfl) ?_
      refine RL.p rfl rfl rfl (PV_indexAddr rfl Tryz.underlying59 sz63 rfl rfl rfl (by omega)) ?_
      refine RL.p rfl rfl rfl (by first | exact PV_fieldAddr0 rfl rfl fa63_0 | exact PV_fieldAddr rfl rfl fa63_0) ?_
      refine RL.s rfl rfl rfl (PV_loadMem1 (j := i * 2) rfl ag60 rfl (fun _ h => h.le hj3) (hmem _ _) (by rw [Nat.mul_comm]; exact hu)) hs3 ?_
      refine RL.e rfl rfl rfl (K1 rfl fn78 rfl (C78 hver hexp hh32 (he.1.le hj3) hs3)) ?_
      rintro r4 w4 ⟨J4, ks4, hj4, rfl, hks4, hs4⟩
      refine RL.p rfl rfl rfl (PV_move rfl rfl) ?_
      refine RL.p rfl rfl rfl (PV_extract rfl rfl rfl) ?_
      refine RL.p rfl rfl rfl (PV_extract rfl rfl rfl) ?_
      refine RL.e rfl rfl rfl (EF_allocA rfl zr42 hs4) ?_
      rintro r5 w5 ⟨b9, rfl, hs5⟩
      refine RL.e0 rfl rfl (EF_storeA (cs := zl42) rfl rfl rfl sz42 rfl (one1_rprog fun j hj => (hks4 j hj).cell) hs5 (by first | exact u0 | exact u1 | exact u2 | exact u3 | exact u4 | exact u5 | exact u0.app | exact u1.app | exact u2.app | exact u3.app)) ?_
      rintro r6 w6 hs6
      refine RL.p rfl rfl rfl (PV_assign rfl rfl) ?_
      refine RL.done (nxt ?_)
      repeat first | apply W.seq | apply W.region
      refine RL.p rfl rfl rfl (PV_move rfl rfl) ?_
      refine RL.p rfl rfl rfl (PV_eqi rfl rfl rfl) ?_
      refine RL.p rfl rfl rfl (PV_move rfl rfl) ?_
      refine RL.split 30 rfl (fun g1 => ?_) (fun g1 => by exact absurd (of_decide_eq_false g1) (by decide))
      refine RL.gp rfl rfl rfl rfl g1 rfl rfl rfl (by first | exact PV_fieldAddr0 rfl rfl fa42_0 | exact PV_fieldAddr rfl rfl fa42_0) ?_
      refine RL.gs rfl rfl rfl rfl g1 rfl rfl rfl (PV_loadM1 rfl ag3 rfl (by first | exact m0 | exact m1 | exact m2 | exact m3 | exact m4 | exact m5 | exact mapp m0 | exact mapp m1 | exact mapp m2 | exact mapp m3) (by first | exact tc_34 | exact tc_35 | exact tc_36 | exact tc_0 | exact tc_1 | rfl)) hs6 ?_
      refine RL.gp rfl rfl rfl rfl g1 rfl rfl rfl (by first | exact PV_fieldAddr0 rfl rfl fa42_0 | exact PV_fieldAddr rfl rfl fa42_0) ?_
      refine RL.gs rfl rfl rfl rfl g1 rfl rfl rfl (PV_loadM1 rfl ag3 rfl (by first | exact m0 | exact m1 | exact m2 | exact m3 | exact m4 | exact m5 | exact mapp m0 | exact mapp m1 | exact mapp m2 | exact mapp m3) (by first | exact tc_34 | exact tc_35 | exact tc_36 | exact tc_0 | exact tc_1 | rfl)) hs6 ?_
      refine RL.gp rfl rfl rfl rfl g1 rfl rfl rfl (PV_leq rfl rfl rfl) ?_
      refine RL.p rfl rfl rfl (PV_pickT rfl rfl g1 rfl) ?_
      refine RL.done (nxt ?_)
      repeat first | apply W.seq | apply W.region
      refine W.cond rfl (fun h2 => ?_) (fun h2 => ?_)
      ·
        repeat first | apply W.seq | apply W.region
        refine W.exit (cut_end (F := (fun _ : Unit => [(8, .int .i64 (i : Int)), (3, ptr b3 0), (6, ptr b6 0), (1, .slice (some ⟨bb, off, none⟩) m c), (2, .int .i64 (now : Int)), (7, .int .i64 0)])) (J := (fun _ w => ∃ J ks, Le I J ∧ (∀ j, j < 4 → SlI J 32 (ks j) 1 (bcells (roleH (seedH s 0) (seedH s (max v (i + 2))) j))) ∧ Sat G ((b6, zl42, 42) :: (b3, rcells ((max v (i + 2) : Nat) : Int) 1073741824 ks, 42) :: M) J w)) () ?_ ?_)
        · repeat first | exact Sub.nil | refine Sub.cons rfl ?_
        · exact (by first | (rw [hmx (of_decide_eq_true h2)]; exact ⟨J4, ks3, hj3.trans hj4, fun j hj => (hks3 j hj).le hj4, hs6.tail⟩) | (rw [hmy (of_decide_eq_false h2)]; exact ⟨J107, ks107, (hj3.trans hj4).trans hj107, hks107, hs6.tail.tail⟩))
      refine W.skip (nxt ?_)
      repeat first | apply W.seq | apply W.region
      refine W.cut (fun x : Nat => [(11, ptr x 0), (12, .int .i64 0), (8, .int .i64 (i : Int)), (3, ptr b3 0), (6, ptr b6 0), (1, .slice (some ⟨bb, off, none⟩) m c), (2, .int .i64 (now : Int)), (7, .int .i64 0)]) (fun x w => ∃ J5 ks5, Le J4 J5 ∧ (∀ j, j < 4 → SlI J5 32 (ks5 j) 1 (bcells (roleH (seedH s 0) (seedH s (i + 2)) j))) ∧ Sat G ((x, rcells ((i + 2 : Nat) : Int) 1073741824 ks5, 42) :: (b9, rcells ((i + 2 : Nat) : Int) 1073741824 ks4, 42) :: (b6, zl42, 42) :: (b3, rcells ((max v (i + 1) : Nat) : Int) 1073741824 ks3, 42) :: M) J5 w) ?_ ?_
      ·
        refine W.drawsF hs6 (.fork [(0, true), (1, true), (2, true), (3, true), (4, true)] 5 9 (.fin [(6, true), (7, true), (8, true), (9, false), (10, false), (11, false)]) (.fin [(5, false), (6, false), (7, true), (8, true), (10, false), (11, false)])) [(0, true), (1, true), (2, true), (3, true), (4, true), (6, true), (7, true), (8, true)] mixed (by kernel_rfl) (by kernel_rfl) ?_
        have hs7 := hs6.drew
        refine TW.s rfl rfl rfl rfl (PV_loadMA (r := rcells ((max v (i + 1) : Nat) : Int) 1073741824 ks3) rfl ag42 sz42 rfl m2 (by show 10 ≤ 10; omega) rfl) hs7 ?_
        refine TW.p rfl rfl rfl rfl (PV_move rfl rfl) hs7 ?_
        refine TW.p rfl rfl rfl rfl (PV_move rfl rfl) hs7 ?_
        refine TW.p rfl rfl rfl rfl (PV_indexAddr rfl Tryz.underlying59 sz63 rfl rfl rfl (by omega)) hs7 ?_
        refine TW.s rfl rfl rfl rfl (PV_loadMemA (r := [u, mv]) (j := i * 2) rfl ag63 sz63 rfl (fun _ h => h.le (hj3.trans hj4)) (hmem _ _) (by rw [hec.1]; omega) (ec_part hu hmv)) hs7 ?_
        refine TW.fork ?_ ?_
        ·
          refine TW.e rfl rfl rfl rfl (K2 rfl fn79 rfl rfl (C79 (sd := seedH s 0) (q := i) (by omega) (rootE_len (by omega) hh32) (he.le (hj3.trans hj4)) hver hexp hh32 ((hks3 0 (by decide)).le hj4) rfl (by have := of_decide_eq_false h2; omega) hs7)) ?_
          rintro r8 w8 ⟨J8, ks8, hj8, rfl, hks8, hs8⟩
          refine ⟨(hs8.le hj8), ?_⟩
          refine TW.p rfl rfl rfl rfl (PV_move rfl rfl) (hs8.le hj8) ?_
          refine TW.p rfl rfl rfl rfl (PV_extract rfl rfl rfl) (hs8.le hj8) ?_
          refine TW.p rfl rfl rfl rfl (PV_extract rfl rfl rfl) (hs8.le hj8) ?_
          refine TW.e rfl rfl rfl rfl (EF_allocA rfl zr42 hs8) ?_
          rintro r9 w9 ⟨b11, rfl, hs9⟩
          refine ⟨(hs9.tail.le hj8), ?_⟩
          refine TW.e0 rfl rfl rfl (EF_storeA (cs := zl42) rfl rfl rfl sz42 rfl (one1_rprog fun j hj => (hks8 j hj).cell) hs9 (by first | exact u0 | exact u1 | exact u2 | exact u3 | exact u4 | exact u5 | exact u0.app | exact u1.app | exact u2.app | exact u3.app)) ?_
          rintro r10 w10 hs10
          refine ⟨(hs10.tail.le hj8), ?_⟩
          refine TW.qn rfl rfl rfl rfl (T := fun _ => True) (PV_assign rfl rfl) trivial (by kernel_rfl) ?_
          exact TW.done (cut_end (F := (fun x : Nat => [(11, ptr x 0), (12, .int .i64 0), (8, .int .i64 (i : Int)), (3, ptr b3 0), (6, ptr b6 0), (1, .slice (some ⟨bb, off, none⟩) m c), (2, .int .i64 (now : Int)), (7, .int .i64 0)])) (J := (fun x w => ∃ J5 ks5, Le J4 J5 ∧ (∀ j, j < 4 → SlI J5 32 (ks5 j) 1 (bcells (roleH (seedH s 0) (seedH s (i + 2)) j))) ∧ Sat G ((x, rcells ((i + 2 : Nat) : Int) 1073741824 ks5, 42) :: (b9, rcells ((i + 2 : Nat) : Int) 1073741824 ks4, 42) :: (b6, zl42, 42) :: (b3, rcells ((max v (i + 1) : Nat) : Int) 1073741824 ks3, 42) :: M) J5 w)) _ (by repeat first | exact Sub.nil | refine Sub.cons rfl ?_) (by exact (by first | exact ⟨J8, ks8, hj8, hks8, hs10⟩ | exact ⟨J9, ks9, hj9, hks9, hs10⟩)))
        ·
          refine TW.e rfl rfl rfl rfl (EF_allocA rfl zr42 hs7) ?_
          rintro r8 w8 ⟨b11, rfl, hs8⟩
          refine ⟨(hs8.tail), ?_⟩
          refine TW.e rfl rfl rfl rfl (K2 rfl fn79 rfl rfl (C79 (sd := seedH s 0) (q := i) (by omega) (rootE_len (by omega) hh32) (he.le (hj3.trans hj4)) hver hexp hh32 ((hks3 0 (by decide)).le hj4) rfl (by have := of_decide_eq_false h2; omega) hs8)) ?_
          rintro r9 w9 ⟨J9, ks9, hj9, rfl, hks9, hs9⟩
          refine ⟨(hs9.tail.le hj9), ?_⟩
          refine TW.q rfl rfl rfl rfl (T := fun _ => True) (PV_move rfl rfl) trivial (fun _ => (hs9.tail.le hj9)) ?_
          refine TW.p rfl rfl rfl rfl (PV_extract rfl rfl rfl) (hs9.tail.le hj9) ?_
          refine TW.p rfl rfl rfl rfl (PV_extract rfl rfl rfl) (hs9.tail.le hj9) ?_
          refine TW.e0 rfl rfl rfl (EF_storeA (cs := zl42) rfl rfl rfl sz42 rfl (one1_rprog fun j hj => (hks9 j hj).cell) hs9 (by first | exact u0 | exact u1 | exact u2 | exact u3 | exact u4 | exact u5 | exact u0.app | exact u1.app | exact u2.app | exact u3.app)) ?_
          rintro r10 w10 hs10
          refine ⟨(hs10.tail.le hj9), ?_⟩
          refine TW.qn rfl rfl rfl rfl (T := fun _ => True) (PV_assign rfl rfl) trivial (by kernel_rfl) ?_
          exact TW.done (cut_end (F := (fun x : Nat => [(11, ptr x 0), (12, .int .i64 0), (8, .int .i64 (i : Int)), (3, ptr b3 0), (6, ptr b6 0), (1, .slice (some ⟨bb, off, none⟩) m c), (2, .int .i64 (now : Int)), (7, .int .i64 0)])) (J := (fun x w => ∃ J5 ks5, Le J4 J5 ∧ (∀ j, j < 4 → SlI J5 32 (ks5 j) 1 (bcells (roleH (seedH s 0) (seedH s (i + 2)) j))) ∧ Sat G ((x, rcells ((i + 2 : Nat) : Int) 1073741824 ks5, 42) :: (b9, rcells ((i + 2 : Nat) : Int) 1073741824 ks4, 42) :: (b6, zl42, 42) :: (b3, rcells ((max v (i + 1) : Nat) : Int) 1073741824 ks3, 42) :: M) J5 w)) _ (by repeat first | exact Sub.nil | refine Sub.cons rfl ?_) (by exact (by first | exact ⟨J8, ks8, hj8, hks8, hs10⟩ | exact ⟨J9, ks9, hj9, hks9, hs10⟩)))
      rintro x w106 ⟨J107, ks107, hj107, hks107, hs106⟩
      refine nxt ?_
      repeat first | apply W.seq | apply W.region
      refine RL.p rfl rfl rfl (PV_move rfl rfl) ?_
      refine RL.p rfl rfl rfl (PV_nei rfl rfl rfl) ?_
      refine RL.done (nxt ?_)
      repeat first | apply W.seq | apply W.region
      refine W.cond rfl (fun h3 => ?_) (fun h3 => ?_)
      · exact absurd (of_decide_eq_true h3) (by decide)
      refine W.skip (nxt ?_)
      repeat first | apply W.seq | apply W.region
      refine RL.s rfl rfl rfl (PV_loadMA (r := rcells ((i + 2 : Nat) : Int) 1073741824 ks107) rfl ag42 sz42 rfl m0 (by show 10 ≤ 10; omega) rfl) hs106 ?_
      refine RL.e0 rfl rfl (EF_storeA (cs := rcells ((max v (i + 1) : Nat) : Int) 1073741824 ks3) rfl rfl rfl sz42 rfl (one1_rprog fun j hj => (hks107 j hj).cell) hs106 (by first | exact u0 | exact u1 | exact u2 | exact u3 | exact u4 | exact u5 | exact u0.app | exact u1.app | exact u2.app | exact u3.app)) ?_
      rintro r107 w107 hs107
      refine RL.done (cut_end (F := (fun _ : Unit => [(8, .int .i64 (i : Int)), (3, ptr b3 0), (6, ptr b6 0), (1, .slice (some ⟨bb, off, none⟩) m c), (2, .int .i64 (now : Int)), (7, .int .i64 0)])) (J := (fun _ w => ∃ J ks, Le I J ∧ (∀ j, j < 4 → SlI J 32 (ks j) 1 (bcells (roleH (seedH s 0) (seedH s (max v (i + 2))) j))) ∧ Sat G ((b6, zl42, 42) :: (b3, rcells ((max v (i + 2) : Nat) : Int) 1073741824 ks, 42) :: M) J w)) () ?_ ?_)
      · repeat first | exact Sub.nil | refine Sub.cons rfl ?_
      · exact (by first | (rw [hmx (of_decide_eq_true h2)]; exact ⟨J4, ks3, hj3.trans hj4, fun j hj => (hks3 j hj).le hj4, hs107.tail⟩) | (rw [hmy (of_decide_eq_false h2)]; exact ⟨J107, ks107, (hj3.trans hj4).trans hj107, hks107, hs107.tail.tail⟩))
    rintro _ w103 ⟨J104, ks104, hj104, hks104, hs103⟩
    refine nxt ?_
    repeat first | apply W.seq | apply W.region
    refine RL.p rfl rfl rfl (PV_move rfl rfl) ?_
    refine RL.p rfl rfl rfl (PV_add rfl rfl rfl (by omega)) ?_
    refine RL.p rfl rfl rfl (PV_assign rfl rfl) ?_
    refine RL.done (round_end (i + 1) ?_ ?_ ?_)
    · repeat first | exact Sub.nil | refine Sub.cons rfl ?_
    · exact ⟨by omega, J104, ks104, hj104, hks104, hs103⟩
    · first | omega | (dsimp only; omega)
  repeat first | apply W.seq | apply W.region
  refine W.exit (nxt ?_)
  repeat first | apply W.seq | apply W.region
  refine RL.p rfl rfl rfl (by first | exact PV_fieldAddr0 rfl rfl fa42_1 | exact PV_fieldAddr rfl rfl fa42_1) ?_
  refine RL.s rfl rfl rfl (PV_loadM1 rfl ag3 rfl (by first | exact m0 | exact m1 | exact m2 | exact m3 | exact m4 | exact m5 | exact mapp m0 | exact mapp m1 | exact mapp m2 | exact mapp m3) (by first | exact tc_34 | exact tc_35 | exact tc_36 | exact tc_0 | exact tc_1 | rfl)) hs3 ?_
  refine RL.p rfl rfl rfl (PV_move rfl rfl) ?_
  refine RL.p rfl rfl rfl (PV_leq rfl rfl rfl) ?_
  refine RL.done (nxt ?_)
  repeat first | apply W.seq | apply W.region
  refine W.cond rfl (fun h4 => ?_) (fun h4 => ?_)
  · exact absurd (of_decide_eq_true h4) (by omega)
  refine W.skip (nxt ?_)
  repeat first | apply W.seq | apply W.region
  refine RL.s rfl rfl rfl (PV_loadMA (r := rcells ((max v (i + 1) : Nat) : Int) 1073741824 ks3) rfl ag42 sz42 rfl m1 (by show 10 ≤ 10; omega) rfl) hs3 ?_
  refine RL.e0 rfl rfl (EF_storeA (cs := zl42) rfl rfl rfl sz42 rfl (one1_rprog fun j hj => (hks3 j hj).cell) hs3 (by first | exact u0 | exact u1 | exact u2 | exact u3 | exact u4 | exact u5 | exact u0.app | exact u1.app | exact u2.app | exact u3.app)) ?_
  rintro r4 w4 hs4
  refine RL.p rfl rfl rfl (PV_assign rfl rfl) ?_
  refine RL.done (nxt ?_)
  repeat first | apply W.seq | apply W.region
  obtain rfl : i = m := by have := of_decide_eq_false h1; omega
  have hfin : max v (i + 1) = i + 1 := by omega
  exact  W.ret (ret_cell2 rfl rfl rfl (ldA ag42 sz42 hs4 m0 rfl) ⟨_, rfl, J3, ks3, hj3, by rw [hfin], by rw [hfin] at hks3; exact hks3, hs4.tail.tail⟩) --hs4.tail.tail⟩)

end Go.Proofs.YtecbpmgfikgoaaaGreatDoor
