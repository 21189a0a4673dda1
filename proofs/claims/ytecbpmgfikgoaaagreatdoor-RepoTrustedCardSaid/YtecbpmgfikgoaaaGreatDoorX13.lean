/- Walks of functions 17: what each call gives back, and that it writes nothing of anybody else's. Conditions: as each theorem says. -/
import Derived.Test.YtecbpmgfikgoaaaGreatDoorX12
set_option linter.unusedVariables false
set_option linter.unusedSimpArgs false
set_option maxRecDepth 8000
set_option maxHeartbeats 4000000
namespace Go.Proofs.YtecbpmgfikgoaaaGreatDoor
open Go Go.RowKit
variable {G w : World} {M : List Chunk} {I : Imm}

theorem splice_app {A T vs : List Value} {k i : Nat} (hk : A.length = k) : splice (A ++ T) (k + i) vs = A ++ splice T i vs := by
  subst hk
  simp only [splice, List.take_append, List.drop_append, List.append_assoc]
  rw [List.take_of_length_le (by omega), List.drop_of_length_le (by omega), show A.length + i - A.length = i by omega, show A.length + i + vs.length - A.length = i + vs.length by omega]
  rfl
theorem fill51 {v : Int} {ks : Nat → Value} {has : Bool} {a b c : Int} {h : List UInt8} {s0 s1 : Int} {pv tg : Value} (h32 : h.length = 32) :
    fillL [(0, 10), (10, 1), (11, 35), (46, 3), (49, 1)] zl51 ([(0, aggL (rcells v 1073741824 ks)), (1, Value.bool has), (2, aggL (.int .i64 a :: .int .i64 b :: .int .i64 c :: bcells h)), (3, aggL [.int .i64 s0, .int .i64 s1, pv]), (4, tg)].map fun x => (x.1, x.2.cells.toList)) =
      (if tg.cells.toList.length = 1 then some (rcells v 1073741824 ks ++ (.bool has :: .int .i64 a :: .int .i64 b :: .int .i64 c :: (bcells h ++ ([.int .i64 s0, .int .i64 s1, pv] ++ tg.cells.toList)))) else fillL [(0, 10), (10, 1), (11, 35), (46, 3), (49, 1)] zl51 ([(0, aggL (rcells v 1073741824 ks)), (1, Value.bool has), (2, aggL (.int .i64 a :: .int .i64 b :: .int .i64 c :: bcells h)), (3, aggL [.int .i64 s0, .int .i64 s1, pv]), (4, tg)].map fun x => (x.1, x.2.cells.toList))) := by
  split
  · next ht =>
    have hb : (bcells h).length = 32 := by rw [length_bcells, h32]
    have c0 : (aggL (rcells v 1073741824 ks)).cells.toList = rcells v 1073741824 ks := cells_aggL _
    have c1 : (Value.bool has).cells.toList = [.bool has] := rfl
    have c2 : (aggL (.int .i64 a :: .int .i64 b :: .int .i64 c :: bcells h)).cells.toList = .int .i64 a :: .int .i64 b :: .int .i64 c :: bcells h := cells_aggL _
    have c3 : (aggL [.int .i64 s0, .int .i64 s1, pv]).cells.toList = [.int .i64 s0, .int .i64 s1, pv] := cells_aggL _
    have p0 : splice zl51 0 (rcells v 1073741824 ks) = rcells v 1073741824 ks ++ zl51.drop 10 := rfl
    have p1 : splice (rcells v 1073741824 ks ++ zl51.drop 10) 10 [.bool has] = rcells v 1073741824 ks ++ (.bool has :: zl51.drop 11) := rfl
    have l2 : (.int .i64 a :: .int .i64 b :: .int .i64 c :: bcells h : List Value).length = 35 := by simp only [List.length_cons, hb]
    have p2 : splice (rcells v 1073741824 ks ++ (.bool has :: zl51.drop 11)) 11 (.int .i64 a :: .int .i64 b :: .int .i64 c :: bcells h) = (rcells v 1073741824 ks ++ (.bool has :: .int .i64 a :: .int .i64 b :: .int .i64 c :: bcells h)) ++ zl51.drop 46 := by
      rw [splice, l2]
      rfl
    have l3 : (rcells v 1073741824 ks ++ (.bool has :: .int .i64 a :: .int .i64 b :: .int .i64 c :: bcells h)).length = 46 := by simp only [rcells, rroles, List.length_append, List.length_cons, List.length_nil, hb]
    have p3 : splice ((rcells v 1073741824 ks ++ (.bool has :: .int .i64 a :: .int .i64 b :: .int .i64 c :: bcells h)) ++ zl51.drop 46) 46 [.int .i64 s0, .int .i64 s1, pv] = (rcells v 1073741824 ks ++ (.bool has :: .int .i64 a :: .int .i64 b :: .int .i64 c :: bcells h)) ++ ([.int .i64 s0, .int .i64 s1, pv] ++ zl51.drop 49) := splice_app (i := 0) l3
    obtain ⟨t, hte⟩ : ∃ t, tg.cells.toList = [t] := List.length_eq_one_iff.1 ht
    have p4 : splice ((rcells v 1073741824 ks ++ (.bool has :: .int .i64 a :: .int .i64 b :: .int .i64 c :: bcells h)) ++ ([.int .i64 s0, .int .i64 s1, pv] ++ zl51.drop 49)) 49 tg.cells.toList = (rcells v 1073741824 ks ++ (.bool has :: .int .i64 a :: .int .i64 b :: .int .i64 c :: bcells h)) ++ ([.int .i64 s0, .int .i64 s1, pv] ++ tg.cells.toList) := by
      rw [hte]
      exact splice_app (i := 3) l3
    simp only [List.map_cons, List.map_nil, fillL, List.getElem?_cons_zero, List.getElem?_cons_succ, c0, c1, c2, c3]
    rw [p0, p1, p2, p3, p4]
    rw [if_pos ⟨rfl, by decide⟩, if_pos ⟨rfl, by show 10 + 1 ≤ 50; omega⟩, if_pos ⟨l2, by show 11 + 35 ≤ 50; omega⟩, if_pos ⟨rfl, by simp only [List.length_append, l3]; decide⟩, if_pos ⟨ht, by simp only [List.length_append, l3]; exact Nat.le_refl 50⟩]
    simp only [List.append_assoc, List.cons_append, List.nil_append]
  · rfl

theorem C17 {s : List UInt8} {v m now q : Nat} {kt : Nat → Value} {has : Bool} {a bt c : Int} {h0 : List UInt8} {s0 s1 : Int} {pv tg rv pM mM pS mS tv pT mT : Value} {ecs : List Value} {K : List Tgt} {n e : Int} (hh0 : h0.length = 32) (hv1 : 1 ≤ v) (hvm : v ≤ m + 1) (hm : m ≤ 16) (hks : ∀ j, j < 4 → SlI I 32 (kt j) 1 (bcells (roleH (seedH s 0) (seedH s v) j))) (hr : SlI I 2 rv m ecs) (hec : rootOk I s ecs m) (hq : q + 2 < 16) (heM : EnvI I pM mM (nums [2] ++ timeE n e n (sha (nums [3] ++ snapE n e topS n))) (keyH (seedH s (m + 1))) (q + 2) (chainsH (seedH s (m + 1)) (q + 2) (nums [2] ++ timeE n e n (sha (nums [3] ++ snapE n e topS n)))) (pathH 4 (leavesH (seedH s (m + 1))) (q + 2))) (heS : EnvI I pS mS (nums [3] ++ snapE n e topS n) (keyH (seedH s (m + 1))) (q + 1) (chainsH (seedH s (m + 1)) (q + 1) (nums [3] ++ snapE n e topS n)) (pathH 4 (leavesH (seedH s (m + 1))) (q + 1))) (htv : SlI I 2 tv 1 [pT, mT]) (heT : EnvI I pT mT (nums [4] ++ targetsE topS n e K) (keyH (seedH s (m + 1))) (q) (chainsH (seedH s (m + 1)) (q) (nums [4] ++ targetsE topS n e K)) (pathH 4 (leavesH (seedH s (m + 1))) (q))) (hok : ∀ t ∈ K, t.ok) (hT : targetsB topS n e K = true) (hhas : has = true → a ≤ n ∧ c ≤ n) (hpin : PinOk I has pv n) (hexp : (now : Int) < e) (hnow : now < 1073741824) (hs : Sat G M I w) : Calls Tryz.prog 17 #[aggL (trc v kt has a bt c h0 s0 s1 pv tg), aggL [rv, pM, mM, pS, mS, tv], .int .i64 (now : Int)] w (Ret fun r w' => ∃ J ks kv tg' lv, Le I J ∧ r = .tuple #[aggL (trc (m + 1) ks true n e n (sha (nums [3] ++ snapE n e topS n)) n e kv tg'), .int .i64 0] ∧ (∀ j, j < 4 → SlI J 32 (ks j) 1 (bcells (roleH (seedH s 0) (seedH s (m + 1)) j))) ∧ SlI J 2 kv 1 [.string topS, .int .i64 n] ∧ SlI J 5 tg' 1 [.string topS, .int .i64 n, .int .i64 e, lv, .slice none 0 0] ∧ SlI J 37 lv K.length (lcells K) ∧ Sat G M J w') := by
  obtain ⟨-, hvn, hee, -, -, -⟩ := targets_in hT
  obtain ⟨tb, to, tc, rfl, htc, hmT⟩ := htv.mem (by decide)
  refine enter3 Tryz.func17 rfl Tryz.ntmps17 rfl ?_
  repeat first | apply W.seq | apply W.region
  refine RL.e rfl rfl rfl (EF_boxA rfl rfl hs) ?_
  rintro r1 w1 ⟨b3, rfl, hs1⟩
  refine RL.e rfl rfl rfl (EF_boxA rfl rfl hs1) ?_
  rintro r2 w2 ⟨b4, rfl, hs2⟩
  refine RL.e rfl rfl rfl (EF_allocA rfl zr51 hs2) ?_
  rintro r3 w3 ⟨b6, rfl, hs3⟩
  refine RL.p rfl rfl rfl (PV_assign rfl rfl) ?_
  refine RL.done (nxt ?_)
  repeat first | apply W.seq | apply W.region
  refine RL.p rfl rfl rfl (by first | exact PV_fieldAddr0 rfl rfl fa51_0 | exact PV_fieldAddr rfl rfl fa51_0) ?_
  refine RL.s rfl rfl rfl (PV_loadMA (r := rcells (v : Int) 1073741824 kt) rfl ag42 sz42 rfl m2 (by rw [length_trc hh0]; decide) trc_root) hs3 ?_
  refine RL.p rfl rfl rfl (by first | exact PV_fieldAddr0 rfl rfl fa65_0 | exact PV_fieldAddr rfl rfl fa65_0) ?_
  refine RL.s rfl rfl rfl (PV_loadM1 rfl ag59 rfl (by first | exact m0 | exact m1 | exact m2 | exact m3 | exact m4 | exact m5 | exact mapp m0 | exact mapp m1 | exact mapp m2 | exact mapp m3) (by first | exact tc_34 | exact tc_35 | exact tc_36 | exact tc_0 | exact tc_1 | rfl)) hs3 ?_
  refine RL.p rfl rfl rfl (PV_move rfl rfl) ?_
  refine RL.e rfl rfl rfl (K3 rfl fn41 rfl rfl rfl (C41 hv1 hvm hm hnow hks hr hec hs3)) ?_
  rintro r4 w4 ⟨J4, ks4, hj4, rfl, hks4, hs4⟩
  refine RL.p rfl rfl rfl (PV_move rfl rfl) ?_
  refine RL.p rfl rfl rfl (PV_extract rfl rfl rfl) ?_
  refine RL.p rfl rfl rfl (PV_extract rfl rfl rfl) ?_
  refine RL.e rfl rfl rfl (EF_allocA rfl zr42 hs4) ?_
  rintro r5 w5 ⟨b8, rfl, hs5⟩
  refine RL.e0 rfl rfl (EF_storeA (cs := zl42) rfl rfl rfl sz42 rfl (one1_rprog fun j hj => (hks4 j hj).cell) hs5 (by first | exact u0 | exact u1 | exact u2 | exact u3 | exact u4 | exact u5 | exact u0.app | exact u1.app | exact u2.app | exact u3.app)) ?_
  rintro r6 w6 hs6
  refine RL.p rfl rfl rfl (PV_assign rfl rfl) ?_
  refine RL.done (nxt ?_)
  repeat first | apply W.seq | apply W.region
  refine RL.p rfl rfl rfl (PV_move rfl rfl) ?_
  refine RL.p rfl rfl rfl (PV_nei rfl rfl rfl) ?_
  refine RL.done (nxt ?_)
  repeat first | apply W.seq | apply W.region
  refine W.cond rfl (fun h1 => ?_) (fun h1 => ?_)
  · exact absurd (of_decide_eq_true h1) (by decide)
  refine W.skip (nxt ?_)
  repeat first | apply W.seq | apply W.region
  refine RL.s rfl rfl rfl (PV_loadMA (r := trc v kt has a bt c h0 s0 s1 pv tg) rfl ag51 sz51 rfl m3 (by rw [length_trc hh0]; decide) (part_whole (length_trc hh0))) hs6 ?_
  refine RL.s rfl rfl rfl (PV_loadMA (r := rcells ((m + 1 : Nat) : Int) 1073741824 ks4) rfl ag42 sz42 rfl m0 (by show 10 ≤ 10; omega) rfl) hs6 ?_
  refine RL.p rfl rfl rfl (by first | exact PV_fieldAddr0 rfl rfl fa65_1 | exact PV_fieldAddr rfl rfl fa65_1) ?_
  refine RL.s rfl rfl rfl (PV_loadMA (r := [pM, mM]) rfl ag63 sz63 rfl m2 (by simp) rfl) hs6 ?_
  refine RL.p rfl rfl rfl (PV_move rfl rfl) ?_
  refine RL.e rfl rfl rfl (K4 rfl fn42 rfl rfl rfl rfl (C42 hh0 (length_sha _) hvn hee hvn hhas hexp hq (heM.le hj4) (hks4 1 (by decide)) hs6)) ?_
  rintro r7 w7 ⟨J7, hj7, rfl, hs7⟩
  refine RL.p rfl rfl rfl (PV_move rfl rfl) ?_
  refine RL.p rfl rfl rfl (PV_extract rfl rfl rfl) ?_
  refine RL.p rfl rfl rfl (PV_extract rfl rfl rfl) ?_
  refine RL.e rfl rfl rfl (EF_allocA rfl zr45 hs7) ?_
  rintro r8 w8 ⟨b10, rfl, hs8⟩
  refine RL.e0 rfl rfl (EF_storeA (cs := zl45) rfl rfl rfl sz45 (by simp [length_bcells, length_sha]; rfl) (by rw [one1_cons, one1_cons, one1_cons, one1_bcells]; rfl) hs8 (by first | exact u0 | exact u1 | exact u2 | exact u3 | exact u4 | exact u5 | exact u0.app | exact u1.app | exact u2.app | exact u3.app)) ?_
  rintro r9 w9 hs9
  refine RL.p rfl rfl rfl (PV_assign rfl rfl) ?_
  refine RL.done (nxt ?_)
  repeat first | apply W.seq | apply W.region
  refine RL.p rfl rfl rfl (PV_move rfl rfl) ?_
  refine RL.p rfl rfl rfl (PV_nei rfl rfl rfl) ?_
  refine RL.done (nxt ?_)
  repeat first | apply W.seq | apply W.region
  refine W.cond rfl (fun h2 => ?_) (fun h2 => ?_)
  · exact absurd (of_decide_eq_true h2) (by decide)
  refine W.skip (nxt ?_)
  repeat first | apply W.seq | apply W.region
  refine RL.s rfl rfl rfl (PV_loadMA (r := trc v kt has a bt c h0 s0 s1 pv tg) rfl ag51 sz51 rfl m4 (by rw [length_trc hh0]; decide) (part_whole (length_trc hh0))) hs9 ?_
  refine RL.s rfl rfl rfl (PV_loadMA (r := rcells ((m + 1 : Nat) : Int) 1073741824 ks4) rfl ag42 sz42 rfl m1 (by show 10 ≤ 10; omega) rfl) hs9 ?_
  refine RL.s rfl rfl rfl (PV_loadMA (r := .int .i64 n :: .int .i64 e :: .int .i64 n :: bcells (sha (nums [3] ++ snapE n e topS n))) rfl ag45 sz45 rfl m0 (by simp [length_bcells, length_sha]) (part_whole (by simp [length_bcells, length_sha]))) hs9 ?_
  refine RL.p rfl rfl rfl (by first | exact PV_fieldAddr0 rfl rfl fa65_2 | exact PV_fieldAddr rfl rfl fa65_2) ?_
  refine RL.s rfl rfl rfl (PV_loadMA (r := [pS, mS]) rfl ag63 sz63 rfl m3 (by simp) rfl) hs9 ?_
  refine RL.p rfl rfl rfl (PV_move rfl rfl) ?_
  refine RL.e rfl rfl rfl (K5 rfl fn43 rfl rfl rfl rfl rfl (C43 hh0 hvn hee (hpin.le (hj4.trans hj7)) hexp (by omega) (heS.le (hj4.trans hj7)) ((hks4 2 (by decide)).le hj7) hs9)) ?_
  rintro r10 w10 ⟨J10, kv10, hj10, rfl, hk10, hs10⟩
  refine RL.p rfl rfl rfl (PV_move rfl rfl) ?_
  refine RL.p rfl rfl rfl (PV_extract rfl rfl rfl) ?_
  refine RL.p rfl rfl rfl (PV_extract rfl rfl rfl) ?_
  refine RL.e rfl rfl rfl (EF_allocA rfl zr48 hs10) ?_
  rintro r11 w11 ⟨b11, rfl, hs11⟩
  refine RL.e0 rfl rfl (EF_storeA (cs := zl48) rfl rfl rfl sz48 rfl (by rw [one1_cons, one1_cons, one1_cons, one1_nil, hk10.cell]; rfl) hs11 (by first | exact u0 | exact u1 | exact u2 | exact u3 | exact u4 | exact u5 | exact u0.app | exact u1.app | exact u2.app | exact u3.app)) ?_
  rintro r12 w12 hs12
  refine RL.p rfl rfl rfl (PV_assign rfl rfl) ?_
  refine RL.done (nxt ?_)
  repeat first | apply W.seq | apply W.region
  refine RL.p rfl rfl rfl (PV_move rfl rfl) ?_
  refine RL.p rfl rfl rfl (PV_nei rfl rfl rfl) ?_
  refine RL.done (nxt ?_)
  repeat first | apply W.seq | apply W.region
  refine W.cond rfl (fun h3 => ?_) (fun h3 => ?_)
  · exact absurd (of_decide_eq_true h3) (by decide)
  refine W.skip (nxt ?_)
  repeat first | apply W.seq | apply W.region
  refine W.block ?_
  repeat first | apply W.seq | apply W.region
  refine RL.p rfl rfl rfl (by first | exact PV_fieldAddr0 rfl rfl fa65_3 | exact PV_fieldAddr rfl rfl fa65_3) ?_
  refine RL.s rfl rfl rfl (PV_loadM1 rfl ag59 rfl (by first | exact m0 | exact m1 | exact m2 | exact m3 | exact m4 | exact m5 | exact mapp m0 | exact mapp m1 | exact mapp m2 | exact mapp m3) (by first | exact tc_34 | exact tc_35 | exact tc_36 | exact tc_0 | exact tc_1 | rfl)) hs12 ?_
  refine RL.p rfl rfl rfl (PV_len rfl Tryz.underlying59 rfl) ?_
  refine RL.p rfl rfl rfl (PV_eqi rfl rfl rfl) ?_
  refine RL.p rfl rfl rfl (PV_assign rfl rfl) ?_
  refine RL.done (nxt ?_)
  repeat first | apply W.seq | apply W.region
  refine W.cond rfl (fun h4 => ?_) (fun h4 => ?_)
  · exact absurd (of_decide_eq_true h4) (by decide)
  repeat first | apply W.seq | apply W.region
  refine RL.p rfl rfl rfl (by first | exact PV_fieldAddr0 rfl rfl fa65_3 | exact PV_fieldAddr rfl rfl fa65_3) ?_
  refine RL.s rfl rfl rfl (PV_loadM1 rfl ag59 rfl (by first | exact m0 | exact m1 | exact m2 | exact m3 | exact m4 | exact m5 | exact mapp m0 | exact mapp m1 | exact mapp m2 | exact mapp m3) (by first | exact tc_34 | exact tc_35 | exact tc_36 | exact tc_0 | exact tc_1 | rfl)) hs12 ?_
  refine RL.p rfl rfl rfl (PV_len rfl Tryz.underlying59 rfl) ?_
  refine RL.p rfl rfl rfl (PV_gtr rfl rfl rfl) ?_
  refine RL.p rfl rfl rfl (PV_assign rfl rfl) ?_
  refine RL.done (nxt ?_)
  repeat first | apply W.seq | apply W.region
  refine W.cond rfl (fun h5 => ?_) (fun h5 => ?_)
  · exact absurd (of_decide_eq_true h5) (by decide)
  refine W.skip (nxt ?_)
  repeat first | apply W.seq | apply W.region
  refine RL.p rfl rfl rfl (PV_assign rfl rfl) ?_
  refine RL.done (nxt ?_)
  repeat first | apply W.seq | apply W.region
  refine RL.p rfl rfl rfl (PV_assign rfl rfl) ?_
  refine RL.done (nxt ?_)
  repeat first | apply W.seq | apply W.region
  refine W.block ?_
  repeat first | apply W.seq | apply W.region
  refine W.loop (F := fun z : Nat × Value => [(13, .int .i64 (z.1 : Int)), (12, z.2), (3, ptr b3 0), (4, ptr b4 0), (6, ptr b6 0), (8, ptr b8 0), (10, ptr b10 0), (11, ptr b11 0), (2, .int .i64 (now : Int))]) (J := fun z w => z.1 ≤ 1 ∧ ∃ J lv L, Le J10 J ∧ (z.1 = 0 → z.2 = .slice none 0 0 ∧ L = []) ∧ (z.1 = 1 → SlI J 37 lv K.length (lcells K) ∧ OwnS 70 5 z.2 [.string topS, .int .i64 n, .int .i64 e, lv, .slice none 0 0] L) ∧ Sat G (L ++ (b11, [.int .i64 n, .int .i64 e, kv10], 48) :: (b10, .int .i64 n :: .int .i64 e :: .int .i64 n :: bcells (sha (nums [3] ++ snapE n e topS n)), 45) :: (b8, rcells ((m + 1 : Nat) : Int) 1073741824 ks4, 42) :: (b6, zl51, 51) :: (b4, [rv, pM, mM, pS, mS, .slice (some ⟨tb, to, none⟩) 1 tc], 65) :: (b3, trc v kt has a bt c h0 s0 s1 pv tg, 51) :: M) J w) (m := fun z => 1 - z.1) (0, .slice none 0 0) (by repeat first | exact Sub.nil | refine Sub.cons rfl ?_) ⟨by omega, J10, .slice none 0 0, [], Le.refl _, fun _ => ⟨rfl, rfl⟩, fun h => absurd h (by decide), hs12⟩ ?_
  rintro ⟨i, x⟩ w13 ⟨hi, J13, lv, L, hj13, hx0, hx1, hs13⟩
  dsimp only at hi hx0 hx1 hs13
  repeat first | apply W.seq | apply W.region
  refine RL.p rfl rfl rfl (PV_move rfl rfl) ?_
  refine RL.p rfl rfl rfl (by first | exact PV_fieldAddr0 rfl rfl fa65_3 | exact PV_fieldAddr rfl rfl fa65_3) ?_
  refine RL.s rfl rfl rfl (PV_loadM1 rfl ag59 rfl (mapp m4) rfl) hs13 ?_
  refine RL.p rfl rfl rfl (PV_len rfl Tryz.underlying59 rfl) ?_
  refine RL.p rfl rfl rfl (PV_lss rfl rfl rfl) ?_
  refine RL.done (nxt ?_)
  repeat first | apply W.seq | apply W.region
  refine W.cond rfl (fun h6 => ?_) (fun h6 => ?_)
  ·
    obtain rfl : i = 0 := by have := of_decide_eq_true h6; dsimp only at this; omega
    obtain ⟨rfl, rfl⟩ := hx0 rfl
    replace hs13 : Sat G ((b11, [.int .i64 n, .int .i64 e, kv10], 48) :: (b10, .int .i64 n :: .int .i64 e :: .int .i64 n :: bcells (sha (nums [3] ++ snapE n e topS n)), 45) :: (b8, rcells ((m + 1 : Nat) : Int) 1073741824 ks4, 42) :: (b6, zl51, 51) :: (b4, [rv, pM, mM, pS, mS, .slice (some ⟨tb, to, none⟩) 1 tc], 65) :: (b3, trc v kt has a bt c h0 s0 s1 pv tg, 51) :: M) J13 w13 := hs13
    refine W.skip (nxt ?_)
    repeat first | apply W.seq | apply W.region
    refine W.block ?_
    repeat first | apply W.seq | apply W.region
    refine W.cut (fun y : Nat => [(14, ptr y 0), (15, .int .i64 0), (13, .int .i64 ((0 : Nat) : Int)), (12, .slice none 0 0), (3, ptr b3 0), (4, ptr b4 0), (6, ptr b6 0), (8, ptr b8 0), (10, ptr b10 0), (11, ptr b11 0), (2, .int .i64 (now : Int))]) (fun y w => ∃ J lv, Le J13 J ∧ SlI J 37 lv K.length (lcells K) ∧ Sat G ((y, [.string topS, .int .i64 n, .int .i64 e, lv, .slice none 0 0], 70) :: (b11, [.int .i64 n, .int .i64 e, kv10], 48) :: (b10, .int .i64 n :: .int .i64 e :: .int .i64 n :: bcells (sha (nums [3] ++ snapE n e topS n)), 45) :: (b8, rcells ((m + 1 : Nat) : Int) 1073741824 ks4, 42) :: (b6, zl51, 51) :: (b4, [rv, pM, mM, pS, mS, .slice (some ⟨tb, to, none⟩) 1 tc], 65) :: (b3, trc v kt has a bt c h0 s0 s1 pv tg, 51) :: M) J w) ?_ ?_
    ·
      refine W.drawsF hs13 (.fork [(0, true), (1, true), (2, true), (3, true), (4, true), (5, true), (6, true), (7, true), (8, true)] 9 13 (.fin [(10, true), (11, true), (12, true), (13, false), (14, false), (15, false)]) (.fin [(9, false), (10, false), (11, true), (12, true), (14, false), (15, false)])) [(0, true), (1, true), (2, true), (3, true), (4, true), (5, true), (6, true), (7, true), (8, true), (10, true), (11, true), (12, true)] mixed (by kernel_rfl) (by kernel_rfl) ?_
      have hs14 := hs13.drew
      refine TW.s rfl rfl rfl rfl (PV_loadMA (r := rcells ((m + 1 : Nat) : Int) 1073741824 ks4) rfl ag42 sz42 rfl m2 (by show 10 ≤ 10; omega) rfl) hs14 ?_
      refine TW.s rfl rfl rfl rfl (PV_loadMA (r := [.int .i64 n, .int .i64 e, kv10]) rfl ag48 sz48 rfl m0 (by simp) rfl) hs14 ?_
      refine TW.p rfl rfl rfl rfl (PV_move rfl rfl) hs14 ?_
      refine TW.p rfl rfl rfl rfl (by first | exact PV_fieldAddr0 rfl rfl fa65_3 | exact PV_fieldAddr rfl rfl fa65_3) hs14 ?_
      refine TW.s rfl rfl rfl rfl (PV_loadM1 rfl ag59 rfl m4 rfl) hs14 ?_
      refine TW.p rfl rfl rfl rfl (PV_move rfl rfl) hs14 ?_
      refine TW.p rfl rfl rfl rfl (PV_indexAddr rfl Tryz.underlying59 sz63 rfl rfl rfl (by omega)) hs14 ?_
      refine TW.s rfl rfl rfl rfl (PV_loadMemA (cs := [pT, mT]) (r := [pT, mT]) (j := 0 * 2) rfl ag63 sz63 rfl (fun _ h => h.le (((hj4.trans hj7).trans hj10).trans hj13)) (hmT G _) (by simp) rfl) hs14 ?_
      refine TW.p rfl rfl rfl rfl (PV_move rfl rfl) hs14 ?_
      refine TW.fork ?_ ?_
      ·
        refine TW.e rfl rfl rfl rfl (K5 rfl fn44 rfl rfl rfl rfl rfl (C44 hok hT (hk10.le hj13) hexp (by omega) (heT.le (((hj4.trans hj7).trans hj10).trans hj13)) ((hks4 3 (by decide)).le ((hj7.trans hj10).trans hj13)) hs14)) ?_
        rintro r15 w15 ⟨J15, lv15, hj15, rfl, hk15, hs15⟩
        refine ⟨(hs15.le hj15), ?_⟩
        refine TW.p rfl rfl rfl rfl (PV_move rfl rfl) (hs15.le hj15) ?_
        refine TW.p rfl rfl rfl rfl (PV_extract rfl rfl rfl) (hs15.le hj15) ?_
        refine TW.p rfl rfl rfl rfl (PV_extract rfl rfl rfl) (hs15.le hj15) ?_
        refine TW.e rfl rfl rfl rfl (EF_allocA rfl zr70 hs15) ?_
        rintro r16 w16 ⟨b14, rfl, hs16⟩
        refine ⟨(hs16.tail.le hj15), ?_⟩
        refine TW.e0 rfl rfl rfl (EF_storeA (cs := zl70) rfl rfl rfl sz70 rfl (by rw [one1_cons, one1_cons, one1_cons, one1_cons, one1_cons, one1_nil, hk15.cell]; rfl) hs16 (by first | exact u0 | exact u1 | exact u2 | exact u3 | exact u4 | exact u5 | exact u0.app | exact u1.app | exact u2.app | exact u3.app)) ?_
        rintro r17 w17 hs17
        refine ⟨(hs17.tail.le hj15), ?_⟩
        refine TW.qn rfl rfl rfl rfl (T := fun _ => True) (PV_assign rfl rfl) trivial (by kernel_rfl) ?_
        exact TW.done (cut_end (F := (fun y : Nat => [(14, ptr y 0), (15, .int .i64 0), (13, .int .i64 ((0 : Nat) : Int)), (12, .slice none 0 0), (3, ptr b3 0), (4, ptr b4 0), (6, ptr b6 0), (8, ptr b8 0), (10, ptr b10 0), (11, ptr b11 0), (2, .int .i64 (now : Int))])) (J := (fun y w => ∃ J lv, Le J13 J ∧ SlI J 37 lv K.length (lcells K) ∧ Sat G ((y, [.string topS, .int .i64 n, .int .i64 e, lv, .slice none 0 0], 70) :: (b11, [.int .i64 n, .int .i64 e, kv10], 48) :: (b10, .int .i64 n :: .int .i64 e :: .int .i64 n :: bcells (sha (nums [3] ++ snapE n e topS n)), 45) :: (b8, rcells ((m + 1 : Nat) : Int) 1073741824 ks4, 42) :: (b6, zl51, 51) :: (b4, [rv, pM, mM, pS, mS, .slice (some ⟨tb, to, none⟩) 1 tc], 65) :: (b3, trc v kt has a bt c h0 s0 s1 pv tg, 51) :: M) J w)) _ (by repeat first | exact Sub.nil | refine Sub.cons rfl ?_) (by exact (by first | exact ⟨J15, lv15, hj15, hk15, hs17⟩ | exact ⟨J16, lv16, hj16, hk16, hs17⟩)))
      ·
        refine TW.e rfl rfl rfl rfl (EF_allocA rfl zr70 hs14) ?_
        rintro r15 w15 ⟨b14, rfl, hs15⟩
        refine ⟨(hs15.tail), ?_⟩
        refine TW.e rfl rfl rfl rfl (K5 rfl fn44 rfl rfl rfl rfl rfl (C44 hok hT (hk10.le hj13) hexp (by omega) (heT.le (((hj4.trans hj7).trans hj10).trans hj13)) ((hks4 3 (by decide)).le ((hj7.trans hj10).trans hj13)) hs15)) ?_
        rintro r16 w16 ⟨J16, lv16, hj16, rfl, hk16, hs16⟩
        refine ⟨(hs16.tail.le hj16), ?_⟩
        refine TW.q rfl rfl rfl rfl (T := fun _ => True) (PV_move rfl rfl) trivial (fun _ => (hs16.tail.le hj16)) ?_
        refine TW.p rfl rfl rfl rfl (PV_extract rfl rfl rfl) (hs16.tail.le hj16) ?_
        refine TW.p rfl rfl rfl rfl (PV_extract rfl rfl rfl) (hs16.tail.le hj16) ?_
        refine TW.e0 rfl rfl rfl (EF_storeA (cs := zl70) rfl rfl rfl sz70 rfl (by rw [one1_cons, one1_cons, one1_cons, one1_cons, one1_cons, one1_nil, hk16.cell]; rfl) hs16 (by first | exact u0 | exact u1 | exact u2 | exact u3 | exact u4 | exact u5 | exact u0.app | exact u1.app | exact u2.app | exact u3.app)) ?_
        rintro r17 w17 hs17
        refine ⟨(hs17.tail.le hj16), ?_⟩
        refine TW.qn rfl rfl rfl rfl (T := fun _ => True) (PV_assign rfl rfl) trivial (by kernel_rfl) ?_
        exact TW.done (cut_end (F := (fun y : Nat => [(14, ptr y 0), (15, .int .i64 0), (13, .int .i64 ((0 : Nat) : Int)), (12, .slice none 0 0), (3, ptr b3 0), (4, ptr b4 0), (6, ptr b6 0), (8, ptr b8 0), (10, ptr b10 0), (11, ptr b11 0), (2, .int .i64 (now : Int))])) (J := (fun y w => ∃ J lv, Le J13 J ∧ SlI J 37 lv K.length (lcells K) ∧ Sat G ((y, [.string topS, .int .i64 n, .int .i64 e, lv, .slice none 0 0], 70) :: (b11, [.int .i64 n, .int .i64 e, kv10], 48) :: (b10, .int .i64 n :: .int .i64 e :: .int .i64 n :: bcells (sha (nums [3] ++ snapE n e topS n)), 45) :: (b8, rcells ((m + 1 : Nat) : Int) 1073741824 ks4, 42) :: (b6, zl51, 51) :: (b4, [rv, pM, mM, pS, mS, .slice (some ⟨tb, to, none⟩) 1 tc], 65) :: (b3, trc v kt has a bt c h0 s0 s1 pv tg, 51) :: M) J w)) _ (by repeat first | exact Sub.nil | refine Sub.cons rfl ?_) (by exact (by first | exact ⟨J15, lv15, hj15, hk15, hs17⟩ | exact ⟨J16, lv16, hj16, hk16, hs17⟩)))
    rintro y w113 ⟨J114, lv114, hj114, hk114, hs113⟩
    refine nxt ?_
    repeat first | apply W.seq | apply W.region
    refine RL.p rfl rfl rfl (PV_move rfl rfl) ?_
    refine RL.p rfl rfl rfl (PV_nei rfl rfl rfl) ?_
    refine RL.done (nxt ?_)
    repeat first | apply W.seq | apply W.region
    refine W.cond rfl (fun h7 => ?_) (fun h7 => ?_)
    · exact absurd (of_decide_eq_true h7) (by decide)
    refine W.skip (nxt ?_)
    repeat first | apply W.seq | apply W.region
    refine RL.p rfl rfl rfl (PV_move rfl rfl) ?_
    refine RL.s rfl rfl rfl (PV_loadMA (r := [.string topS, .int .i64 n, .int .i64 e, lv114, .slice none 0 0]) rfl ag70 sz70 rfl m0 (by simp) rfl) hs113 ?_
    refine RL.e rfl rfl rfl (EF_bs1a rfl el49 rfl (by simp; rfl) (by decide) hs113) ?_
    rintro r114 w114 ⟨b94, rfl, hs114⟩
    refine RL.e rfl rfl rfl (EF_append (l := 0) (m := 1) (L := []) (olds := []) (news := [.string topS, .int .i64 n, .int .i64 e, lv114, .slice none 0 0]) rfl el49 rfl rfl OwnS.nil rfl (rdW (m := 1) hs114 m0 rfl (Nat.le_refl _)) (by rw [one1_cons, one1_cons, one1_cons, one1_cons, one1_cons, one1_nil, hk114.cell]; rfl) (by omega) (by decide) hs114) ?_
    rintro r115 w115 ⟨L115, ho115, hs115⟩
    refine RL.p rfl rfl rfl (PV_assign rfl rfl) ?_
    refine RL.done (nxt ?_)
    repeat first | apply W.seq | apply W.region
    refine RL.p rfl rfl rfl (PV_move rfl rfl) ?_
    refine RL.p rfl rfl rfl (PV_add rfl rfl rfl (by omega)) ?_
    refine RL.p rfl rfl rfl (PV_assign rfl rfl) ?_
    refine RL.done (round_end (1, r115) ?_ ?_ ?_)
    · repeat first | exact Sub.nil | refine Sub.cons rfl ?_
    · exact ⟨by dsimp only; omega, J114, lv114, L115, hj13.trans hj114, fun h => absurd h (by dsimp only; decide), fun _ => ⟨hk114, ho115⟩, (hs115.del (Del.app x0)).del (Del.app x0)⟩
    · first | omega | (dsimp only; omega)
  repeat first | apply W.seq | apply W.region
  refine W.exit (nxt ?_)
  repeat first | apply W.seq | apply W.region
  obtain rfl : i = 1 := by have := of_decide_eq_false h6; dsimp only at this; omega
  obtain ⟨hlv, ho⟩ := hx1 rfl
  have hfill := fill51 (v := ((m + 1 : Nat) : Int)) (ks := ks4) (has := true) (a := n) (b := e) (c := n) (h := sha (nums [3] ++ snapE n e topS n)) (s0 := n) (s1 := e) (pv := kv10) (tg := x) (length_sha _)
  rw [if_pos (by rw [cells_one ho.cell]; rfl), cells_one ho.cell] at hfill
  refine RL.s rfl rfl rfl (PV_loadMA (r := rcells ((m + 1 : Nat) : Int) 1073741824 ks4) rfl ag42 sz42 rfl (mapp m2) (by show 10 ≤ 10; omega) rfl) hs13 ?_
  refine RL.s rfl rfl rfl (PV_loadMA (r := .int .i64 n :: .int .i64 e :: .int .i64 n :: bcells (sha (nums [3] ++ snapE n e topS n))) rfl ag45 sz45 rfl (mapp m1) (by simp [length_bcells, length_sha]) (part_whole (by simp [length_bcells, length_sha]))) hs13 ?_
  refine RL.s rfl rfl rfl (PV_loadMA (r := [.int .i64 n, .int .i64 e, kv10]) rfl ag48 sz48 rfl (mapp m0) (by simp) rfl) hs13 ?_
  refine RL.p rfl rfl rfl (PV_move rfl rfl) ?_
  refine RL.p rfl rfl rfl (PV_buildS (cs := trc (m + 1) ks4 true n e n (sha (nums [3] ++ snapE n e topS n)) n e kv10 x) rfl pl51 zr51 rfl hfill) ?_
  refine RL.e0 rfl rfl (EF_storeA (cs := zl51) rfl rfl rfl sz51 (by rw [length_trc (length_sha _)]; rfl) (by rw [trc, one1_append, one1_cons, one1_cons, one1_cons, one1_cons, one1_append, one1_bcells, one1_cons, one1_cons, one1_cons, one1_cons, one1_nil, ho.cell, hk10.cell, ← rprog_four, one1_rprog fun j hj => (hks4 j hj).cell]; rfl) hs13 (by first | exact u0 | exact u1 | exact u2 | exact u3 | exact u4 | exact u5 | exact u0.app | exact u1.app | exact u2.app | exact u3.app)) ?_
  rintro r14 w14 hs14
  refine RL.p rfl rfl rfl (PV_assign rfl rfl) ?_
  refine RL.done (nxt ?_)
  repeat first | apply W.seq | apply W.region
  obtain ⟨J15, hj15, hk15, hs15⟩ := OwnS.freeze (m := 1) ho rfl (by decide) hs14
  exact  W.ret (ret_cell2 rfl rfl rfl (ldA ag51 sz51 hs14 (mapp m3) (length_trc (length_sha _))) ⟨_, rfl, J15, ks4, kv10, x, lv, (((hj4.trans hj7).trans hj10).trans hj13).trans hj15, rfl, fun j hj => (hks4 j hj).le (((hj7.trans hj10).trans hj13).trans hj15), hk10.le (hj13.trans hj15), hk15, hlv.le hj15, hs15.tail.tail.tail.tail.tail.tail⟩) --hs14.tail.tail.tail.tail.tail.tail⟩)

end Go.Proofs.YtecbpmgfikgoaaaGreatDoor
