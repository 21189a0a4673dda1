/- Walks of functions 42 84 86 43 44: what each call gives back, and that it writes nothing of anybody else's. Conditions: as each theorem says. -/
import Derived.Test.YtecbpmgfikgoaaaGreatDoorX11
set_option linter.unusedVariables false
set_option linter.unusedSimpArgs false
set_option maxRecDepth 8000
set_option maxHeartbeats 4000000
namespace Go.Proofs.YtecbpmgfikgoaaaGreatDoor
open Go Go.RowKit
variable {G w : World} {M : List Chunk} {I : Imm}

/-- What is trusted, in memory. -/
def trc (v : Nat) (ks : Nat → Value) (has : Bool) (a b c : Int) (h0 : List UInt8) (s0 s1 : Int) (pv tg : Value) : List Value :=
  rcells (v : Int) 1073741824 ks ++ (.bool has :: .int .i64 a :: .int .i64 b :: .int .i64 c :: (bcells h0 ++ [.int .i64 s0, .int .i64 s1, pv, tg]))
theorem length_trc {v : Nat} {ks : Nat → Value} {has : Bool} {a b c : Int} {h0 : List UInt8} {s0 s1 : Int} {pv tg : Value} (h : h0.length = 32) : (trc v ks has a b c h0 s0 s1 pv tg).length = 50 := by
  simp only [trc, rcells, rroles, List.length_append, List.length_cons, List.length_nil, length_bcells, h]
theorem trc_pv {v : Nat} {ks : Nat → Value} {has : Bool} {a b c : Int} {h0 : List UInt8} {s0 s1 : Int} {pv tg : Value} (h : h0.length = 32) : (trc v ks has a b c h0 s0 s1 pv tg)[48]? = some pv := by
  show (bcells h0 ++ [.int .i64 s0, .int .i64 s1, pv, tg])[34]? = some pv
  rw [List.getElem?_append_right (by rw [length_bcells, h]; decide), length_bcells, h]
  rfl
theorem trc_tg {v : Nat} {ks : Nat → Value} {has : Bool} {a b c : Int} {h0 : List UInt8} {s0 s1 : Int} {pv tg : Value} (h : h0.length = 32) : (trc v ks has a b c h0 s0 s1 pv tg)[49]? = some tg := by
  show (bcells h0 ++ [.int .i64 s0, .int .i64 s1, pv, tg])[35]? = some tg
  rw [List.getElem?_append_right (by rw [length_bcells, h]; decide), length_bcells, h]
  rfl
theorem trc_root {v : Nat} {ks : Nat → Value} {has : Bool} {a b c : Int} {h0 : List UInt8} {s0 s1 : Int} {pv tg : Value} : part (trc v ks has a b c h0 s0 s1 pv tg) 0 10 = rcells (v : Int) 1073741824 ks := rfl
/-- The pins that are trusted. -/
def PinOk (I : Imm) (has : Bool) (pv : Value) (n : Int) : Prop := ∃ A k c, pv = .slice A k c ∧ (0 < k → k = 1 ∧ has = true ∧ ∃ x0, SlI I 2 pv 1 [.string topS, .int .i64 x0] ∧ x0 ≤ n)
theorem PinOk.le {I J : Imm} {has : Bool} {pv : Value} {n : Int} (h : PinOk I has pv n) (hl : Le I J) : PinOk J has pv n := by
  obtain ⟨A, k, c, h1, h2⟩ := h
  refine ⟨A, k, c, h1, fun hk => ?_⟩
  obtain ⟨h3, h4, x0, h5, h6⟩ := h2 hk
  exact ⟨h3, h4, x0, h5.le hl, h6⟩
theorem time_len {n e sn : Int} {h : List UInt8} (hn : isVersionB n = true) (he : isNumB e = true) (hs : isVersionB sn = true) (h32 : h.length = 32) : (nums [2] ++ timeE n e sn h).length ≤ 2 ^ 40 := by
  have a := version_in hn
  have b := num_in he
  have c := version_in hs
  have e1 := len_num (x := 2) (by decide) (by decide)
  have e2 := len_num (x := n) (by omega) (by omega)
  have e3 := len_num (x := e) (by omega) (by omega)
  have e4 := len_num (x := sn) (by omega) (by omega)
  rw [time_split]
  simp only [List.length_append, List.length_nil]
  omega
theorem snap_len {n e x : Int} {s : ByteArray} (hs : nameB s = true) (hx : isVersionB x = true) (hn : isVersionB n = true) (he : isNumB e = true) : (nums [3] ++ snapE n e s x).length ≤ 2 ^ 40 := by
  have a := version_in hn
  have b := num_in he
  have c := version_in hx
  have e0 := len_row (name_len hs)
  have e1 := len_num (x := 3) (by decide) (by decide)
  have e2 := len_num (x := n) (by omega) (by omega)
  have e3 := len_num (x := e) (by omega) (by omega)
  have e4 := len_num (x := x) (by omega) (by omega)
  have e5 := len_num (x := 1) (by omega) (by omega)
  rw [snap_split]
  simp only [List.length_append, List.length_nil]
  omega
theorem targets_len {n e : Int} {s : ByteArray} {K : List Tgt} (hok : ∀ t ∈ K, t.ok) (h : targetsB s n e K = true) : (nums [4] ++ targetsE s n e K).length ≤ 2 ^ 40 := by
  obtain ⟨hs, hv, he, h16, htg, -⟩ := targets_in h
  have hvv := version_in hv
  have hee := num_in he
  have e0 := len_row (name_len hs)
  have e1 := len_num (x := 4) (by decide) (by decide)
  have e2 := len_num (x := n) (by omega) (by omega)
  have e3 := len_num (x := e) (by omega) (by omega)
  have e4 := len_num (x := (K.length : Int)) (by omega) (by omega)
  have e5 := len_num (x := 0) (by decide) (by decide)
  have e6 := len_targets hok fun t ht => by
    obtain ⟨j, hj⟩ := List.mem_iff_getElem?.1 ht
    exact htg j t hj
  rw [targets_split]
  simp only [List.length_append, List.length_nil]
  omega
theorem top_name : nameB topS = true := by kernel_rfl

theorem C42 {v0 : Nat} {kt : Nat → Value} {has : Bool} {a b c : Int} {h0 : List UInt8} {s0 s1 : Int} {pv tg : Value} (hh0 : h0.length = 32) {n e sn : Int} {h : List UInt8} {now : Nat} (h32 : h.length = 32) (hv : isVersionB n = true) (hee : isNumB e = true) (hsn : isVersionB sn = true) (hhas : has = true → a ≤ n ∧ c ≤ sn) (hexp : (now : Int) < e) {sd : List UInt8} {p mv : Value} {q : Nat} (hq : q < 16) (he : EnvI I p mv (nums [2] ++ timeE n e sn h) (keyH sd) q (chainsH sd q (nums [2] ++ timeE n e sn h)) (pathH 4 (leavesH sd) q)) {rv : Int} {kr : Nat → Value} (hkr : SlI I 32 (kr 1) 1 (bcells (keyH sd))) (hs : Sat G M I w) : Calls Tryz.prog 42 #[aggL (trc v0 kt has a b c h0 s0 s1 pv tg), aggL (rcells rv 1073741824 kr), aggL [p, mv], .int .i64 (now : Int)] w (Ret fun r w' => ∃ J, Le I J ∧ r = .tuple #[aggL (.int .i64 n :: .int .i64 e :: .int .i64 sn :: bcells h), .int .i64 0] ∧ Sat G M J w') := by
  have hp := he.1
  refine enter4 Tryz.func42 rfl Tryz.ntmps42 rfl ?_
  repeat first | apply W.seq | apply W.region
  refine RL.e rfl rfl rfl (EF_boxA rfl rfl hs) ?_
  rintro r1 w1 ⟨b4, rfl, hs1⟩
  refine RL.e rfl rfl rfl (EF_boxA rfl rfl hs1) ?_
  rintro r2 w2 ⟨b5, rfl, hs2⟩
  refine RL.e rfl rfl rfl (EF_boxA rfl rfl hs2) ?_
  rintro r3 w3 ⟨b6, rfl, hs3⟩
  refine RL.e rfl rfl rfl (EF_allocA rfl zr45 hs3) ?_
  rintro r4 w4 ⟨b8, rfl, hs4⟩
  refine RL.p rfl rfl rfl (PV_assign rfl rfl) ?_
  refine RL.done (nxt ?_)
  repeat first | apply W.seq | apply W.region
  refine RL.p rfl rfl rfl (by first | exact PV_fieldAddr0 rfl rfl fa63_0 | exact PV_fieldAddr rfl rfl fa63_0) ?_
  refine RL.s rfl rfl rfl (PV_loadM1 rfl ag60 rfl (by first | exact m0 | exact m1 | exact m2 | exact m3 | exact m4 | exact m5 | exact mapp m0 | exact mapp m1 | exact mapp m2 | exact mapp m3) (by first | exact tc_34 | exact tc_35 | exact tc_36 | exact tc_0 | exact tc_1 | rfl)) hs4 ?_
  refine RL.e rfl rfl rfl (K1 rfl fn80 rfl (C80 h32 hv hee hsn hp hs4)) ?_
  rintro r5 w5 ⟨J5, hj5, rfl, hs5⟩
  refine RL.p rfl rfl rfl (PV_move rfl rfl) ?_
  refine RL.p rfl rfl rfl (PV_extract rfl rfl rfl) ?_
  refine RL.p rfl rfl rfl (PV_extract rfl rfl rfl) ?_
  refine RL.e rfl rfl rfl (EF_allocA rfl zr45 hs5) ?_
  rintro r6 w6 ⟨b10, rfl, hs6⟩
  refine RL.e0 rfl rfl (EF_storeA (cs := zl45) rfl rfl rfl sz45 (by simp [length_bcells, h32]; rfl) (by rw [one1_cons, one1_cons, one1_cons, one1_bcells]; rfl) hs6 (by first | exact u0 | exact u1 | exact u2 | exact u3 | exact u4 | exact u5 | exact u0.app | exact u1.app | exact u2.app | exact u3.app)) ?_
  rintro r7 w7 hs7
  refine RL.p rfl rfl rfl (PV_assign rfl rfl) ?_
  refine RL.done (nxt ?_)
  repeat first | apply W.seq | apply W.region
  refine W.block ?_
  repeat first | apply W.seq | apply W.region
  refine RL.s rfl rfl rfl (PV_loadMA (r := [p, mv]) rfl ag63 sz63 rfl m2 (by simp) rfl) hs7 ?_
  refine RL.p rfl rfl rfl (by first | exact PV_fieldAddr0 rfl rfl fa42_2 | exact PV_fieldAddr rfl rfl fa42_2) ?_
  refine RL.p rfl rfl rfl (PV_indexArr (i := 1) rfl Tryz.underlying40 sz39 rfl rfl rfl (by decide)) ?_
  refine RL.s rfl rfl rfl (PV_loadMA (r := [kr 1, .int .i64 1]) rfl ag39 sz39 rfl m3 (by show _ ≤ 10; omega) (role_part (i := 1) (by decide))) hs7 ?_
  refine RL.e rfl rfl rfl (K2 rfl fn81 rfl rfl (C81 hq (time_len hv hee hsn h32) (he.le hj5) (hkr.le hj5) hs7)) ?_
  rintro r8 w8 ⟨rfl, hs8⟩
  refine RL.p rfl rfl rfl (PV_not rfl rfl) ?_
  refine RL.p rfl rfl rfl (PV_assign rfl rfl) ?_
  refine RL.done (nxt ?_)
  repeat first | apply W.seq | apply W.region
  refine W.cond rfl (fun h1 => ?_) (fun h1 => ?_)
  · cases h1
  repeat first | apply W.seq | apply W.region
  refine RL.p rfl rfl rfl (PV_move rfl rfl) ?_
  refine RL.p rfl rfl rfl (PV_nei rfl rfl rfl) ?_
  refine RL.p rfl rfl rfl (PV_assign rfl rfl) ?_
  refine RL.done (nxt ?_)
  repeat first | apply W.seq | apply W.region
  refine W.cond rfl (fun h2 => ?_) (fun h2 => ?_)
  · exact absurd (of_decide_eq_true h2) (by decide)
  repeat refine W.seq ?_
  refine W.cut (fun bq : Bool => [(30, .bool bq), (4, ptr b4 0), (5, ptr b5 0), (6, ptr b6 0), (8, ptr b8 0), (10, ptr b10 0), (3, .int .i64 (now : Int)), (9, .int .i64 0)]) (fun bq w => bq = false ∧ Sat G ((b10, .int .i64 n :: .int .i64 e :: .int .i64 sn :: bcells h, 45) :: (b8, zl45, 45) :: (b6, [p, mv], 63) :: (b5, rcells rv 1073741824 kr, 42) :: (b4, trc v0 kt has a b c h0 s0 s1 pv tg, 51) :: M) J5 w) ?_ ?_
  ·
    refine W.region ?_
    refine RL.p rfl rfl rfl (by first | exact PV_fieldAddr0 rfl rfl fa51_1 | exact PV_fieldAddr rfl rfl fa51_1) ?_
    refine RL.s rfl rfl rfl (PV_loadM1 rfl ag4 rfl m4 rfl) hs8 ?_
    refine RL.p rfl rfl rfl (PV_move rfl rfl) ?_
    refine RL.split 33 rfl (fun g1 => ?_) (fun g1 => ?_)
    ·
      refine RL.gp rfl rfl rfl rfl g1 rfl rfl rfl (by first | exact PV_fieldAddr0 rfl rfl fa45_0 | exact PV_fieldAddr rfl rfl fa45_0) ?_
      refine RL.gs rfl rfl rfl rfl g1 rfl rfl rfl (PV_loadM1 rfl ag3 rfl m0 rfl) hs8 ?_
      refine RL.gp rfl rfl rfl rfl g1 rfl rfl rfl (by first | exact PV_fieldAddr0 rfl rfl fa51_2 | exact PV_fieldAddr rfl rfl fa51_2) ?_
      refine RL.gp rfl rfl rfl rfl g1 rfl rfl rfl (by first | exact PV_fieldAddr0 rfl rfl fa45_0 | exact PV_fieldAddr rfl rfl fa45_0) ?_
      refine RL.gs rfl rfl rfl rfl g1 rfl rfl rfl (PV_loadM1 rfl ag3 rfl m4 rfl) hs8 ?_
      refine RL.gp rfl rfl rfl rfl g1 rfl rfl rfl (PV_lss rfl rfl rfl) ?_
      refine RL.gp rfl rfl rfl rfl g1 rfl rfl rfl (PV_move rfl rfl) ?_
      refine RL.split 40 rfl (fun g2 => by exact absurd (of_decide_eq_true g2) (by have := hhas g1; omega)) (fun g2 => ?_)
      refine RL.gp rfl rfl rfl rfl g2 rfl rfl rfl (by first | exact PV_fieldAddr0 rfl rfl fa45_2 | exact PV_fieldAddr rfl rfl fa45_2) ?_
      refine RL.gs rfl rfl rfl rfl g2 rfl rfl rfl (PV_loadM1 rfl ag3 rfl m0 rfl) hs8 ?_
      refine RL.gp rfl rfl rfl rfl g2 rfl rfl rfl (by first | exact PV_fieldAddr0 rfl rfl fa51_2 | exact PV_fieldAddr rfl rfl fa51_2) ?_
      refine RL.gp rfl rfl rfl rfl g2 rfl rfl rfl (by first | exact PV_fieldAddr0 rfl rfl fa45_2 | exact PV_fieldAddr rfl rfl fa45_2) ?_
      refine RL.gs rfl rfl rfl rfl g2 rfl rfl rfl (PV_loadM1 rfl ag3 rfl m4 rfl) hs8 ?_
      refine RL.gp rfl rfl rfl rfl g2 rfl rfl rfl (PV_lss rfl rfl rfl) ?_
      refine RL.gp rfl rfl rfl rfl g1 rfl rfl rfl (PV_pickF rfl rfl g2 rfl) ?_
      refine RL.p rfl rfl rfl (PV_pickT rfl rfl g1 rfl) ?_
      refine RL.p rfl rfl rfl (PV_assign rfl rfl) ?_
      exact RL.done (cut_end (F := (fun bq : Bool => [(30, .bool bq), (4, ptr b4 0), (5, ptr b5 0), (6, ptr b6 0), (8, ptr b8 0), (10, ptr b10 0), (3, .int .i64 (now : Int)), (9, .int .i64 0)])) (J := (fun bq w => bq = false ∧ Sat G ((b10, .int .i64 n :: .int .i64 e :: .int .i64 sn :: bcells h, 45) :: (b8, zl45, 45) :: (b6, [p, mv], 63) :: (b5, rcells rv 1073741824 kr, 42) :: (b4, trc v0 kt has a b c h0 s0 s1 pv tg, 51) :: M) J5 w)) _ (by repeat first | exact Sub.nil | refine Sub.cons rfl ?_) (by exact (by first | exact ⟨decide_eq_false (by have := hhas g1; omega), hs8⟩ | exact ⟨rfl, hs8⟩)))
    ·
      refine RL.gk rfl rfl rfl rfl g1 rfl rfl rfl ?_
      refine RL.gk rfl rfl rfl rfl g1 rfl rfl rfl ?_
      refine RL.gk rfl rfl rfl rfl g1 rfl rfl rfl ?_
      refine RL.gk rfl rfl rfl rfl g1 rfl rfl rfl ?_
      refine RL.gk rfl rfl rfl rfl g1 rfl rfl rfl ?_
      refine RL.gk rfl rfl rfl rfl g1 rfl rfl rfl ?_
      refine RL.gk rfl rfl rfl rfl g1 rfl rfl rfl ?_
      refine RL.gu rfl rfl rfl rfl rfl rfl ?_
      refine RL.gu rfl rfl rfl rfl rfl rfl ?_
      refine RL.gu rfl rfl rfl rfl rfl rfl ?_
      refine RL.gu rfl rfl rfl rfl rfl rfl ?_
      refine RL.gu rfl rfl rfl rfl rfl rfl ?_
      refine RL.gu rfl rfl rfl rfl rfl rfl ?_
      refine RL.gk rfl rfl rfl rfl g1 rfl rfl rfl ?_
      refine RL.p rfl rfl rfl (PV_pickF rfl rfl g1 rfl) ?_
      refine RL.p rfl rfl rfl (PV_assign rfl rfl) ?_
      exact RL.done (cut_end (F := (fun bq : Bool => [(30, .bool bq), (4, ptr b4 0), (5, ptr b5 0), (6, ptr b6 0), (8, ptr b8 0), (10, ptr b10 0), (3, .int .i64 (now : Int)), (9, .int .i64 0)])) (J := (fun bq w => bq = false ∧ Sat G ((b10, .int .i64 n :: .int .i64 e :: .int .i64 sn :: bcells h, 45) :: (b8, zl45, 45) :: (b6, [p, mv], 63) :: (b5, rcells rv 1073741824 kr, 42) :: (b4, trc v0 kt has a b c h0 s0 s1 pv tg, 51) :: M) J5 w)) _ (by repeat first | exact Sub.nil | refine Sub.cons rfl ?_) (by exact (by first | exact ⟨decide_eq_false (by have := hhas g1; omega), hs8⟩ | exact ⟨rfl, hs8⟩)))
  rintro b30 w108 ⟨rfl, hs108⟩
  refine nxt ?_
  repeat first | apply W.seq | apply W.region
  refine W.cond rfl (fun h3 => ?_) (fun h3 => ?_)
  · cases h3
  repeat first | apply W.seq | apply W.region
  refine RL.p rfl rfl rfl (by first | exact PV_fieldAddr0 rfl rfl fa45_1 | exact PV_fieldAddr rfl rfl fa45_1) ?_
  refine RL.s rfl rfl rfl (PV_loadM1 rfl ag3 rfl m0 rfl) hs108 ?_
  refine RL.p rfl rfl rfl (PV_move rfl rfl) ?_
  refine RL.p rfl rfl rfl (PV_leq rfl rfl rfl) ?_
  refine RL.p rfl rfl rfl (PV_assign rfl rfl) ?_
  refine RL.done (nxt ?_)
  repeat first | apply W.seq | apply W.region
  refine W.cond rfl (fun h4 => ?_) (fun h4 => ?_)
  · exact absurd (of_decide_eq_true h4) (by omega)
  refine W.skip (nxt ?_)
  repeat first | apply W.seq | apply W.region
  refine RL.s rfl rfl rfl (PV_loadMA (r := .int .i64 n :: .int .i64 e :: .int .i64 sn :: bcells h) rfl ag45 sz45 rfl m0 (by simp [length_bcells, h32]) (part_whole (by simp [length_bcells, h32]))) hs108 ?_
  refine RL.e0 rfl rfl (EF_storeA (cs := zl45) rfl rfl rfl sz45 (by simp [length_bcells, h32]; rfl) (by rw [one1_cons, one1_cons, one1_cons, one1_bcells]; rfl) hs108 (by first | exact u0 | exact u1 | exact u2 | exact u3 | exact u4 | exact u5 | exact u0.app | exact u1.app | exact u2.app | exact u3.app)) ?_
  rintro r109 w109 hs109
  refine RL.p rfl rfl rfl (PV_assign rfl rfl) ?_
  refine RL.done (nxt ?_)
  repeat first | apply W.seq | apply W.region
  exact W.ret (ret_cell2 rfl rfl rfl (ldA ag45 sz45 hs109 m1 (by simp [length_bcells, h32])) ⟨_, rfl, J5, hj5, rfl, hs109.tail.tail.tail.tail.tail⟩) --hs109.tail.tail.tail.tail.tail⟩)

theorem C84 {s0 s1 x : Int} {s : ByteArray} {pv : Value} (hpv : SlI I 2 pv 1 [.string s, .int .i64 x]) (hs : Sat G M I w) : Calls Tryz.prog 84 #[aggL [.int .i64 s0, .int .i64 s1, pv], .string s] w (Ret fun r w' => r = .int .i64 x ∧ Sat G M I w') := by
  obtain ⟨pb, po, pc, rfl, hpc, hmem⟩ := hpv.mem (by decide)
  refine enter2 Tryz.func84 rfl Tryz.ntmps84 rfl ?_
  repeat first | apply W.seq | apply W.region
  refine RL.e rfl rfl rfl (EF_boxA rfl rfl hs) ?_
  rintro r1 w1 ⟨b2, rfl, hs1⟩
  refine RL.p rfl rfl rfl (PV_assign rfl rfl) ?_
  refine RL.done (nxt ?_)
  repeat first | apply W.seq | apply W.region
  refine RL.p rfl rfl rfl (PV_assign rfl rfl) ?_
  refine RL.done (nxt ?_)
  repeat first | apply W.seq | apply W.region
  refine W.block ?_
  repeat first | apply W.seq | apply W.region
  refine W.loop (F := fun _ : Unit => [(5, .int .i64 ((0 : Nat) : Int)), (2, ptr b2 0), (1, .string s)]) (J := fun _ w => Sat G ((b2, [.int .i64 s0, .int .i64 s1, .slice (some ⟨pb, po, none⟩) 1 pc], 48) :: M) I w) (m := fun _ => 0) () (by repeat first | exact Sub.nil | refine Sub.cons rfl ?_) hs1 ?_
  rintro _ w2 hs2
  repeat first | apply W.seq | apply W.region
  refine RL.p rfl rfl rfl (PV_move rfl rfl) ?_
  refine RL.p rfl rfl rfl (by first | exact PV_fieldAddr0 rfl rfl fa48_2 | exact PV_fieldAddr rfl rfl fa48_2) ?_
  refine RL.s rfl rfl rfl (PV_loadM1 rfl ag46 rfl (by first | exact m0 | exact m1 | exact m2 | exact m3 | exact m4 | exact m5 | exact mapp m0 | exact mapp m1 | exact mapp m2 | exact mapp m3) (by first | exact tc_34 | exact tc_35 | exact tc_36 | exact tc_0 | exact tc_1 | rfl)) hs2 ?_
  refine RL.p rfl rfl rfl (PV_len rfl Tryz.underlying46 rfl) ?_
  refine RL.p rfl rfl rfl (PV_lss rfl rfl rfl) ?_
  refine RL.done (nxt ?_)
  repeat first | apply W.seq | apply W.region
  refine W.cond rfl (fun h1 => ?_) (fun h1 => ?_)
  rotate_left
  · exact absurd (of_decide_eq_false h1) (by decide)
  refine W.skip (nxt ?_)
  repeat first | apply W.seq | apply W.region
  refine W.block ?_
  repeat first | apply W.seq | apply W.region
  refine RL.p rfl rfl rfl (by first | exact PV_fieldAddr0 rfl rfl fa48_2 | exact PV_fieldAddr rfl rfl fa48_2) ?_
  refine RL.s rfl rfl rfl (PV_loadM1 rfl ag46 rfl (by first | exact m0 | exact m1 | exact m2 | exact m3 | exact m4 | exact m5 | exact mapp m0 | exact mapp m1 | exact mapp m2 | exact mapp m3) (by first | exact tc_34 | exact tc_35 | exact tc_36 | exact tc_0 | exact tc_1 | rfl)) hs2 ?_
  refine RL.p rfl rfl rfl (PV_move rfl rfl) ?_
  refine RL.p rfl rfl rfl (PV_indexAddr rfl Tryz.underlying46 sz98 rfl rfl rfl (by omega)) ?_
  refine RL.p rfl rfl rfl (by first | exact PV_fieldAddr0 rfl rfl fa98_0 | exact PV_fieldAddr rfl rfl fa98_0) ?_
  refine RL.s rfl rfl rfl (PV_loadMem1 (j := 0) rfl ag9 rfl (fun _ h => h) (hmem _ _) rfl) hs2 ?_
  refine RL.p rfl rfl rfl (PV_move rfl rfl) ?_
  refine RL.p rfl rfl rfl (PV_eqs rfl rfl rfl) ?_
  refine RL.done (nxt ?_)
  repeat first | apply W.seq | apply W.region
  refine W.cond rfl (fun h2 => ?_) (fun h2 => ?_)
  rotate_left
  · simp at h2
  repeat first | apply W.seq | apply W.region
  refine RL.p rfl rfl rfl (by first | exact PV_fieldAddr0 rfl rfl fa48_2 | exact PV_fieldAddr rfl rfl fa48_2) ?_
  refine RL.s rfl rfl rfl (PV_loadM1 rfl ag46 rfl (by first | exact m0 | exact m1 | exact m2 | exact m3 | exact m4 | exact m5 | exact mapp m0 | exact mapp m1 | exact mapp m2 | exact mapp m3) (by first | exact tc_34 | exact tc_35 | exact tc_36 | exact tc_0 | exact tc_1 | rfl)) hs2 ?_
  refine RL.p rfl rfl rfl (PV_move rfl rfl) ?_
  refine RL.p rfl rfl rfl (PV_indexAddr rfl Tryz.underlying46 sz98 rfl rfl rfl (by omega)) ?_
  refine RL.p rfl rfl rfl (by first | exact PV_fieldAddr0 rfl rfl fa98_1 | exact PV_fieldAddr rfl rfl fa98_1) ?_
  refine RL.s rfl rfl rfl (PV_loadMem1 (j := 1) rfl ag3 rfl (fun _ h => h) (hmem _ _) rfl) hs2 ?_
  refine RL.p rfl rfl rfl (PV_assign rfl rfl) ?_
  refine RL.done (nxt ?_)
  repeat first | apply W.seq | apply W.region
  exact W.ret (ret_tmp rfl rfl ⟨_, rfl, rfl, hs2.tail⟩)

theorem C86 {x : ByteArray} (hs : Sat G M I w) : Calls Tryz.prog 86 #[.slice none 0 0, .string x] w (Ret fun r w' => r = .bool false ∧ Sat G M I w') := by
  refine enter2 Tryz.func86 rfl Tryz.ntmps86 rfl ?_
  repeat first | apply W.seq | apply W.region
  refine RL.p rfl rfl rfl (PV_assign rfl rfl) ?_
  refine RL.done (nxt ?_)
  repeat first | apply W.seq | apply W.region
  refine RL.p rfl rfl rfl (PV_assign rfl rfl) ?_
  refine RL.done (nxt ?_)
  repeat first | apply W.seq | apply W.region
  refine W.block ?_
  repeat first | apply W.seq | apply W.region
  refine W.loop (F := fun _ : Unit => [(5, .int .i64 0), (0, .slice none 0 0)]) (J := fun _ w => Sat G M I w) (m := fun _ => 0) () (by repeat first | exact Sub.nil | refine Sub.cons rfl ?_) hs ?_
  rintro _ w1 hs1
  repeat first | apply W.seq | apply W.region
  refine RL.p rfl rfl rfl (PV_move rfl rfl) ?_
  refine RL.p rfl rfl rfl (PV_move rfl rfl) ?_
  refine RL.p rfl rfl rfl (PV_len rfl Tryz.underlying49 rfl) ?_
  refine RL.p rfl rfl rfl (PV_lss rfl rfl rfl) ?_
  refine RL.done (nxt ?_)
  repeat first | apply W.seq | apply W.region
  refine W.cond rfl (fun h1 => ?_) (fun h1 => ?_)
  · exact absurd (of_decide_eq_true h1) (by decide)
  repeat first | apply W.seq | apply W.region
  refine W.exit (nxt ?_)
  repeat first | apply W.seq | apply W.region
  refine RL.p rfl rfl rfl (PV_assign rfl rfl) ?_
  refine RL.done (nxt ?_)
  repeat first | apply W.seq | apply W.region
  exact W.ret (ret_tmp rfl rfl ⟨_, rfl, rfl, hs1⟩)

theorem C43 {v0 : Nat} {kt : Nat → Value} {has : Bool} {a b c : Int} {h0 : List UInt8} {s0 s1 : Int} {pv tg : Value} (hh0 : h0.length = 32) {n e et : Int} {now : Nat} (hv : isVersionB n = true) (hee : isNumB e = true) (hpin : PinOk I has pv n) (hexp : (now : Int) < e) {sd : List UInt8} {p mv : Value} {q : Nat} (hq : q < 16) (he : EnvI I p mv (nums [3] ++ snapE n e topS n) (keyH sd) q (chainsH sd q (nums [3] ++ snapE n e topS n)) (pathH 4 (leavesH sd) q)) {rv : Int} {kr : Nat → Value} (hkr : SlI I 32 (kr 2) 1 (bcells (keyH sd))) (hs : Sat G M I w) : Calls Tryz.prog 43 #[aggL (trc v0 kt has a b c h0 s0 s1 pv tg), aggL (rcells rv 1073741824 kr), aggL (.int .i64 n :: .int .i64 et :: .int .i64 n :: bcells (sha (nums [3] ++ snapE n e topS n))), aggL [p, mv], .int .i64 (now : Int)] w (Ret fun r w' => ∃ J kv, Le I J ∧ r = .tuple #[aggL [.int .i64 n, .int .i64 e, kv], .int .i64 0] ∧ SlI J 2 kv 1 [.string topS, .int .i64 n] ∧ Sat G M J w') := by
  obtain ⟨A, k, cc, rfl, hk⟩ := hpin
  have hvv := version_in hv
  refine enter5 Tryz.func43 rfl Tryz.ntmps43 rfl ?_
  repeat first | apply W.seq | apply W.region
  refine RL.e rfl rfl rfl (EF_boxA rfl rfl hs) ?_
  rintro r1 w1 ⟨b5, rfl, hs1⟩
  refine RL.e rfl rfl rfl (EF_boxA rfl rfl hs1) ?_
  rintro r2 w2 ⟨b6, rfl, hs2⟩
  refine RL.e rfl rfl rfl (EF_boxA rfl rfl hs2) ?_
  rintro r3 w3 ⟨b7, rfl, hs3⟩
  refine RL.e rfl rfl rfl (EF_boxA rfl rfl hs3) ?_
  rintro r4 w4 ⟨b8, rfl, hs4⟩
  refine RL.e rfl rfl rfl (EF_allocA rfl zr48 hs4) ?_
  rintro r5 w5 ⟨b10, rfl, hs5⟩
  refine RL.p rfl rfl rfl (PV_assign rfl rfl) ?_
  refine RL.done (nxt ?_)
  repeat first | apply W.seq | apply W.region
  refine RL.p rfl rfl rfl (by first | exact PV_fieldAddr0 rfl rfl fa63_0 | exact PV_fieldAddr rfl rfl fa63_0) ?_
  refine RL.s rfl rfl rfl (PV_loadM1 rfl ag60 rfl (by first | exact m0 | exact m1 | exact m2 | exact m3 | exact m4 | exact m5 | exact mapp m0 | exact mapp m1 | exact mapp m2 | exact mapp m3) (by first | exact tc_34 | exact tc_35 | exact tc_36 | exact tc_0 | exact tc_1 | rfl)) hs5 ?_
  refine RL.e rfl rfl rfl (K1 rfl fn82 rfl (C82 top_name hv hv hee he.1 hs5)) ?_
  rintro r6 w6 ⟨J6, kv6, hj6, rfl, hk6, hs6⟩
  refine RL.p rfl rfl rfl (PV_move rfl rfl) ?_
  refine RL.p rfl rfl rfl (PV_extract rfl rfl rfl) ?_
  refine RL.p rfl rfl rfl (PV_extract rfl rfl rfl) ?_
  refine RL.e rfl rfl rfl (EF_allocA rfl zr48 hs6) ?_
  rintro r7 w7 ⟨b12, rfl, hs7⟩
  refine RL.e0 rfl rfl (EF_storeA (cs := zl48) rfl rfl rfl sz48 rfl (by rw [one1_cons, one1_cons, one1_cons, one1_nil, hk6.cell]; rfl) hs7 (by first | exact u0 | exact u1 | exact u2 | exact u3 | exact u4 | exact u5 | exact u0.app | exact u1.app | exact u2.app | exact u3.app)) ?_
  rintro r8 w8 hs8
  refine RL.p rfl rfl rfl (PV_assign rfl rfl) ?_
  refine RL.done (nxt ?_)
  repeat first | apply W.seq | apply W.region
  refine W.block ?_
  repeat first | apply W.seq | apply W.region
  refine W.drawsH hs8 [(0, true), (1, true), (3, true), (4, true), (2, false), (5, false), (6, false)] mixed (by kernel_rfl) (by kernel_rfl) ?_
  have hs9 := hs8.drew
  refine TW.p rfl rfl rfl rfl (by first | exact PV_fieldAddr0 rfl rfl fa63_0 | exact PV_fieldAddr rfl rfl fa63_0) (hs9) ?_
  refine TW.s rfl rfl rfl rfl (PV_loadM1 rfl ag60 rfl (by first | exact m0 | exact m1 | exact m2 | exact m3 | exact m4 | exact m5 | exact mapp m0 | exact mapp m1 | exact mapp m2 | exact mapp m3) (by first | exact tc_34 | exact tc_35 | exact tc_36 | exact tc_0 | exact tc_1 | rfl)) (hs9) ?_
  refine TW.p rfl rfl rfl rfl (by first | exact PV_fieldAddr0 rfl rfl fa45_3 | exact PV_fieldAddr rfl rfl fa45_3) (hs9) ?_
  refine TW.s rfl rfl rfl rfl (PV_loadMA (r := bcells (sha (nums [3] ++ snapE n e topS n))) rfl ag24 sz24 rfl m3 (by simp [length_bcells, length_sha]) (by show (bcells _).take 32 = _; exact List.take_of_length_le (by rw [length_bcells, length_sha]; exact Nat.le_refl _))) (hs9) ?_
  refine TW.e rfl rfl rfl rfl (K1 rfl fn83 rfl (C83i (he.1.le hj6) (snap_len top_name hv hv hee) hs9)) ?_
  rintro r10 w10 ⟨rfl, hs10⟩
  refine ⟨(hs10), ?_⟩
  refine TW.q rfl rfl rfl rfl (T := fun _ => True) (PV_neH rfl (length_sha _) (length_sha _) rfl rfl) trivial (fun _ => (hs10)) ?_
  refine TW.q rfl rfl rfl rfl (T := fun _ => True) (PV_assign rfl rfl) trivial (fun _ => (hs10)) ?_
  refine TW.done (nxt ?_)
  repeat first | apply W.seq | apply W.region
  refine W.cond rfl (fun h1 => ?_) (fun h1 => ?_)
  · simp at h1
  repeat first | apply W.seq | apply W.region
  refine RL.s rfl rfl rfl (PV_loadMA (r := [p, mv]) rfl ag63 sz63 rfl m2 (by simp) rfl) hs10 ?_
  refine RL.p rfl rfl rfl (by first | exact PV_fieldAddr0 rfl rfl fa42_2 | exact PV_fieldAddr rfl rfl fa42_2) ?_
  refine RL.p rfl rfl rfl (PV_indexArr (i := 2) rfl Tryz.underlying40 sz39 rfl rfl rfl (by decide)) ?_
  refine RL.s rfl rfl rfl (PV_loadMA (r := [kr 2, .int .i64 1]) rfl ag39 sz39 rfl m4 (by show _ ≤ 10; omega) (role_part (i := 2) (by decide))) hs10 ?_
  refine RL.e rfl rfl rfl (K2 rfl fn81 rfl rfl (C81 hq (snap_len top_name hv hv hee) (he.le hj6) (hkr.le hj6) hs10)) ?_
  rintro r11 w11 ⟨rfl, hs11⟩
  refine RL.p rfl rfl rfl (PV_not rfl rfl) ?_
  refine RL.p rfl rfl rfl (PV_assign rfl rfl) ?_
  refine RL.done (nxt ?_)
  repeat first | apply W.seq | apply W.region
  refine W.cond rfl (fun h2 => ?_) (fun h2 => ?_)
  · cases h2
  repeat first | apply W.seq | apply W.region
  refine RL.p rfl rfl rfl (PV_move rfl rfl) ?_
  refine RL.p rfl rfl rfl (PV_nei rfl rfl rfl) ?_
  refine RL.p rfl rfl rfl (PV_assign rfl rfl) ?_
  refine RL.done (nxt ?_)
  repeat first | apply W.seq | apply W.region
  refine W.cond rfl (fun h3 => ?_) (fun h3 => ?_)
  · exact absurd (of_decide_eq_true h3) (by decide)
  repeat first | apply W.seq | apply W.region
  refine RL.p rfl rfl rfl (by first | exact PV_fieldAddr0 rfl rfl fa48_0 | exact PV_fieldAddr rfl rfl fa48_0) ?_
  refine RL.s rfl rfl rfl (PV_loadM1 rfl ag3 rfl (by first | exact m0 | exact m1 | exact m2 | exact m3 | exact m4 | exact m5 | exact mapp m0 | exact mapp m1 | exact mapp m2 | exact mapp m3) (by first | exact tc_34 | exact tc_35 | exact tc_36 | exact tc_0 | exact tc_1 | rfl)) hs11 ?_
  refine RL.p rfl rfl rfl (by first | exact PV_fieldAddr0 rfl rfl fa45_2 | exact PV_fieldAddr rfl rfl fa45_2) ?_
  refine RL.s rfl rfl rfl (PV_loadM1 rfl ag3 rfl (by first | exact m0 | exact m1 | exact m2 | exact m3 | exact m4 | exact m5 | exact mapp m0 | exact mapp m1 | exact mapp m2 | exact mapp m3) (by first | exact tc_34 | exact tc_35 | exact tc_36 | exact tc_0 | exact tc_1 | rfl)) hs11 ?_
  refine RL.p rfl rfl rfl (PV_nei rfl rfl rfl) ?_
  refine RL.p rfl rfl rfl (PV_assign rfl rfl) ?_
  refine RL.done (nxt ?_)
  repeat first | apply W.seq | apply W.region
  refine W.cond rfl (fun h4 => ?_) (fun h4 => ?_)
  · exact absurd rfl (of_decide_eq_true h4)
  refine W.skip (nxt ?_)
  repeat first | apply W.seq | apply W.region
  refine RL.p rfl rfl rfl (PV_assign rfl rfl) ?_
  refine RL.done (nxt ?_)
  repeat first | apply W.seq | apply W.region
  refine W.block ?_
  repeat first | apply W.seq | apply W.region
  refine W.loop (F := fun i : Nat => [(14, .int .i64 (i : Int)), (5, ptr b5 0), (12, ptr b12 0), (10, ptr b10 0), (4, .int .i64 (now : Int))]) (J := fun i w => i ≤ k ∧ Sat G ((b12, [.int .i64 n, .int .i64 e, kv6], 48) :: (b10, zl48, 48) :: (b8, [p, mv], 63) :: (b7, .int .i64 n :: .int .i64 et :: .int .i64 n :: bcells (sha (nums [3] ++ snapE n e topS n)), 45) :: (b6, rcells rv 1073741824 kr, 42) :: (b5, trc v0 kt has a b c h0 s0 s1 (.slice A k cc) tg, 51) :: M) J6 w) (m := fun i => k - i) 0 (by repeat first | exact Sub.nil | refine Sub.cons rfl ?_) ⟨by omega, hs11⟩ ?_
  rintro i w12 ⟨hi, hs12⟩
  repeat refine W.seq ?_
  refine W.cut (fun bq : Bool => [(57, .bool bq), (14, .int .i64 (i : Int)), (5, ptr b5 0), (12, ptr b12 0), (10, ptr b10 0), (4, .int .i64 (now : Int))]) (fun bq w => (bq = true → i < k) ∧ Sat G ((b12, [.int .i64 n, .int .i64 e, kv6], 48) :: (b10, zl48, 48) :: (b8, [p, mv], 63) :: (b7, .int .i64 n :: .int .i64 et :: .int .i64 n :: bcells (sha (nums [3] ++ snapE n e topS n)), 45) :: (b6, rcells rv 1073741824 kr, 42) :: (b5, trc v0 kt has a b c h0 s0 s1 (.slice A k cc) tg, 51) :: M) J6 w) ?_ ?_
  ·
    refine W.region ?_
    refine RL.p rfl rfl rfl (PV_move rfl rfl) ?_
    refine RL.p rfl rfl rfl (by first | exact PV_fieldAddr0 rfl rfl fa51_3 | exact PV_fieldAddr rfl rfl fa51_3) ?_
    refine RL.p rfl rfl rfl (by first | exact PV_fieldAddr0 rfl rfl fa48_2 | exact PV_fieldAddr rfl rfl fa48_2) ?_
    refine RL.s rfl rfl rfl (PV_loadM1 rfl ag46 rfl m5 (trc_pv hh0)) hs12 ?_
    refine RL.p rfl rfl rfl (PV_len rfl Tryz.underlying46 rfl) ?_
    refine RL.p rfl rfl rfl (PV_lss rfl rfl rfl) ?_
    refine RL.p rfl rfl rfl (PV_move rfl rfl) ?_
    refine RL.split 54 rfl (fun g1 => ?_) (fun g1 => ?_)
    ·
      refine RL.gp rfl rfl rfl rfl g1 rfl rfl rfl (by first | exact PV_fieldAddr0 rfl rfl fa51_1 | exact PV_fieldAddr rfl rfl fa51_1) ?_
      refine RL.gs rfl rfl rfl rfl g1 rfl rfl rfl (PV_loadM1 rfl ag4 rfl (by first | exact m0 | exact m1 | exact m2 | exact m3 | exact m4 | exact m5 | exact mapp m0 | exact mapp m1 | exact mapp m2 | exact mapp m3) (by first | exact tc_34 | exact tc_35 | exact tc_36 | exact tc_0 | exact tc_1 | rfl)) hs12 ?_
      refine RL.p rfl rfl rfl (PV_pickT rfl rfl g1 rfl) ?_
      exact RL.done (cut_end (F := (fun bq : Bool => [(57, .bool bq), (14, .int .i64 (i : Int)), (5, ptr b5 0), (12, ptr b12 0), (10, ptr b10 0), (4, .int .i64 (now : Int))])) (J := (fun bq w => (bq = true → i < k) ∧ Sat G ((b12, [.int .i64 n, .int .i64 e, kv6], 48) :: (b10, zl48, 48) :: (b8, [p, mv], 63) :: (b7, .int .i64 n :: .int .i64 et :: .int .i64 n :: bcells (sha (nums [3] ++ snapE n e topS n)), 45) :: (b6, rcells rv 1073741824 kr, 42) :: (b5, trc v0 kt has a b c h0 s0 s1 (.slice A k cc) tg, 51) :: M) J6 w)) _ (by repeat first | exact Sub.nil | refine Sub.cons rfl ?_) (by exact (by first | exact ⟨fun _ => (by have := of_decide_eq_true g1; omega), hs12⟩ | exact ⟨fun h => (by cases h), hs12⟩)))
    ·
      refine RL.gk rfl rfl rfl rfl g1 rfl rfl rfl ?_
      refine RL.gk rfl rfl rfl rfl g1 rfl rfl rfl ?_
      refine RL.p rfl rfl rfl (PV_pickF rfl rfl g1 rfl) ?_
      exact RL.done (cut_end (F := (fun bq : Bool => [(57, .bool bq), (14, .int .i64 (i : Int)), (5, ptr b5 0), (12, ptr b12 0), (10, ptr b10 0), (4, .int .i64 (now : Int))])) (J := (fun bq w => (bq = true → i < k) ∧ Sat G ((b12, [.int .i64 n, .int .i64 e, kv6], 48) :: (b10, zl48, 48) :: (b8, [p, mv], 63) :: (b7, .int .i64 n :: .int .i64 et :: .int .i64 n :: bcells (sha (nums [3] ++ snapE n e topS n)), 45) :: (b6, rcells rv 1073741824 kr, 42) :: (b5, trc v0 kt has a b c h0 s0 s1 (.slice A k cc) tg, 51) :: M) J6 w)) _ (by repeat first | exact Sub.nil | refine Sub.cons rfl ?_) (by exact (by first | exact ⟨fun _ => (by have := of_decide_eq_true g1; omega), hs12⟩ | exact ⟨fun h => (by cases h), hs12⟩)))
  rintro bg w112 ⟨hT, hs112⟩
  refine nxt ?_
  repeat first | apply W.seq | apply W.region
  refine W.cond rfl (fun h5 => ?_) (fun h5 => ?_)
  ·
    have hi1 : i < k := hT h5
    obtain ⟨rfl, hhas, x0, hx0, hx0n⟩ := hk (by omega)
    obtain rfl : i = 0 := by omega
    obtain ⟨pb, po, pc, hpe, hpc, hmem⟩ := hx0.mem (by decide)
    simp only [Value.slice.injEq] at hpe
    obtain ⟨rfl, -, rfl⟩ := hpe
    refine W.skip (nxt ?_)
    repeat first | apply W.seq | apply W.region
    refine W.block ?_
    repeat first | apply W.seq | apply W.region
    refine W.drawsH hs112 [(0, true), (1, true), (2, true), (3, true), (4, true), (5, true), (6, true), (7, true), (9, true), (10, true), (11, true), (12, true), (13, true), (14, true), (15, true), (8, false), (16, false)] mixed (by kernel_rfl) (by kernel_rfl) ?_
    have hs113 := hs112.drew
    refine TW.s rfl rfl rfl rfl (PV_loadMA (r := [.int .i64 n, .int .i64 e, kv6]) rfl ag48 sz48 rfl m0 (by simp) rfl) hs113 ?_
    refine TW.p rfl rfl rfl rfl (by first | exact PV_fieldAddr0 rfl rfl fa51_3 | exact PV_fieldAddr rfl rfl fa51_3) hs113 ?_
    refine TW.p rfl rfl rfl rfl (by first | exact PV_fieldAddr0 rfl rfl fa48_2 | exact PV_fieldAddr rfl rfl fa48_2) hs113 ?_
    refine TW.s rfl rfl rfl rfl (PV_loadM1 rfl ag46 rfl m5 (trc_pv hh0)) hs113 ?_
    refine TW.p rfl rfl rfl rfl (PV_move rfl rfl) hs113 ?_
    refine TW.p rfl rfl rfl rfl (PV_indexAddr rfl Tryz.underlying46 sz98 rfl rfl rfl (by omega)) hs113 ?_
    refine TW.p rfl rfl rfl rfl (by first | exact PV_fieldAddr0 rfl rfl fa98_0 | exact PV_fieldAddr rfl rfl fa98_0) hs113 ?_
    refine TW.s rfl rfl rfl rfl (PV_loadMem1 (j := 0) rfl ag9 rfl (fun _ h => h.le hj6) (hmem G _) rfl) hs113 ?_
    refine TW.p rfl rfl rfl rfl (by first | exact PV_fieldAddr0 rfl rfl fa51_3 | exact PV_fieldAddr rfl rfl fa51_3) hs113 ?_
    refine TW.p rfl rfl rfl rfl (by first | exact PV_fieldAddr0 rfl rfl fa48_2 | exact PV_fieldAddr rfl rfl fa48_2) hs113 ?_
    refine TW.s rfl rfl rfl rfl (PV_loadM1 rfl ag46 rfl m5 (trc_pv hh0)) hs113 ?_
    refine TW.p rfl rfl rfl rfl (PV_move rfl rfl) hs113 ?_
    refine TW.p rfl rfl rfl rfl (PV_indexAddr rfl Tryz.underlying46 sz98 rfl rfl rfl (by omega)) hs113 ?_
    refine TW.p rfl rfl rfl rfl (by first | exact PV_fieldAddr0 rfl rfl fa98_1 | exact PV_fieldAddr rfl rfl fa98_1) hs113 ?_
    refine TW.s rfl rfl rfl rfl (PV_loadMem1 (j := 1) rfl ag3 rfl (fun _ h => h.le hj6) (hmem G _) rfl) hs113 ?_
    refine TW.e rfl rfl rfl rfl (K2 rfl fn84 rfl rfl (C84 hk6 hs113)) ?_
    rintro r114 w114 ⟨rfl, hs114⟩
    refine ⟨hs114, ?_⟩
    refine TW.q rfl rfl rfl rfl (T := fun _ => True) (PV_lss rfl rfl rfl) trivial (fun _ => hs114) ?_
    refine TW.done (nxt ?_)
    repeat first | apply W.seq | apply W.region
    refine W.cond rfl (fun h6 => ?_) (fun h6 => ?_)
    · exact absurd (of_decide_eq_true h6) (by omega)
    refine W.skip (nxt ?_)
    repeat first | apply W.seq | apply W.region
    refine RL.p rfl rfl rfl (PV_move rfl rfl) ?_
    refine RL.p rfl rfl rfl (PV_add rfl rfl rfl (by omega)) ?_
    refine RL.p rfl rfl rfl (PV_assign rfl rfl) ?_
    refine RL.done (round_end (0 + 1) ?_ ?_ ?_)
    · repeat first | exact Sub.nil | refine Sub.cons rfl ?_
    · exact ⟨by omega, hs114⟩
    · first | omega | (dsimp only; omega)
  repeat first | apply W.seq | apply W.region
  refine W.exit (nxt ?_)
  repeat first | apply W.seq | apply W.region
  refine RL.p rfl rfl rfl (by first | exact PV_fieldAddr0 rfl rfl fa48_1 | exact PV_fieldAddr rfl rfl fa48_1) ?_
  refine RL.s rfl rfl rfl (PV_loadM1 rfl ag3 rfl (by first | exact m0 | exact m1 | exact m2 | exact m3 | exact m4 | exact m5 | exact mapp m0 | exact mapp m1 | exact mapp m2 | exact mapp m3) (by first | exact tc_34 | exact tc_35 | exact tc_36 | exact tc_0 | exact tc_1 | rfl)) hs112 ?_
  refine RL.p rfl rfl rfl (PV_move rfl rfl) ?_
  refine RL.p rfl rfl rfl (PV_leq rfl rfl rfl) ?_
  refine RL.done (nxt ?_)
  repeat first | apply W.seq | apply W.region
  refine W.cond rfl (fun h7 => ?_) (fun h7 => ?_)
  · exact absurd (of_decide_eq_true h7) (by omega)
  refine W.skip (nxt ?_)
  repeat first | apply W.seq | apply W.region
  refine RL.s rfl rfl rfl (PV_loadMA (r := [.int .i64 n, .int .i64 e, kv6]) rfl ag48 sz48 rfl m0 (by simp) rfl) hs112 ?_
  refine RL.e0 rfl rfl (EF_storeA (cs := zl48) rfl rfl rfl sz48 rfl (by rw [one1_cons, one1_cons, one1_cons, one1_nil, hk6.cell]; rfl) hs112 (by first | exact u0 | exact u1 | exact u2 | exact u3 | exact u4 | exact u5 | exact u0.app | exact u1.app | exact u2.app | exact u3.app)) ?_
  rintro r113 w113 hs113
  refine RL.p rfl rfl rfl (PV_assign rfl rfl) ?_
  refine RL.done (nxt ?_)
  repeat first | apply W.seq | apply W.region
  exact W.ret (ret_cell2 rfl rfl rfl (ldA ag48 sz48 hs113 m1 rfl) ⟨_, rfl, J6, kv6, hj6, rfl, hk6, hs113.tail.tail.tail.tail.tail.tail⟩) --hs113.tail.tail.tail.tail.tail.tail⟩)

theorem C44 {n e et : Int} {now : Nat} {kv : Value} {K : List Tgt} (hok : ∀ t ∈ K, t.ok) (h : targetsB topS n e K = true) (hkv : SlI I 2 kv 1 [.string topS, .int .i64 n]) (hexp : (now : Int) < e) {sd : List UInt8} {p mv : Value} {q : Nat} (hq : q < 16) (he : EnvI I p mv (nums [4] ++ targetsE topS n e K) (keyH sd) q (chainsH sd q (nums [4] ++ targetsE topS n e K)) (pathH 4 (leavesH sd) q)) {rv : Int} {kr : Nat → Value} (hkr : SlI I 32 (kr 3) 1 (bcells (keyH sd))) (hs : Sat G M I w) : Calls Tryz.prog 44 #[aggL (rcells rv 1073741824 kr), aggL [.int .i64 n, .int .i64 et, kv], .slice none 0 0, aggL [p, mv], .int .i64 (now : Int)] w (Ret fun r w' => ∃ J lv, Le I J ∧ r = .tuple #[aggL [.string topS, .int .i64 n, .int .i64 e, lv, .slice none 0 0], .int .i64 0] ∧ SlI J 37 lv K.length (lcells K) ∧ Sat G M J w') := by
  have hvv := version_in (targets_in h).2.1
  refine enter5 Tryz.func44 rfl Tryz.ntmps44 rfl ?_
  repeat first | apply W.seq | apply W.region
  refine RL.e rfl rfl rfl (EF_boxA rfl rfl hs) ?_
  rintro r1 w1 ⟨b5, rfl, hs1⟩
  refine RL.e rfl rfl rfl (EF_boxA rfl rfl hs1) ?_
  rintro r2 w2 ⟨b6, rfl, hs2⟩
  refine RL.e rfl rfl rfl (EF_boxA rfl rfl hs2) ?_
  rintro r3 w3 ⟨b8, rfl, hs3⟩
  refine RL.e rfl rfl rfl (EF_allocA rfl zr70 hs3) ?_
  rintro r4 w4 ⟨b10, rfl, hs4⟩
  refine RL.p rfl rfl rfl (PV_assign rfl rfl) ?_
  refine RL.done (nxt ?_)
  repeat first | apply W.seq | apply W.region
  refine RL.p rfl rfl rfl (by first | exact PV_fieldAddr0 rfl rfl fa63_0 | exact PV_fieldAddr rfl rfl fa63_0) ?_
  refine RL.s rfl rfl rfl (PV_loadM1 rfl ag60 rfl (by first | exact m0 | exact m1 | exact m2 | exact m3 | exact m4 | exact m5 | exact mapp m0 | exact mapp m1 | exact mapp m2 | exact mapp m3) (by first | exact tc_34 | exact tc_35 | exact tc_36 | exact tc_0 | exact tc_1 | rfl)) hs4 ?_
  refine RL.e rfl rfl rfl (K1 rfl fn85 rfl (C85 hok h he.1 hs4)) ?_
  rintro r5 w5 ⟨J5, lv5, hj5, rfl, hk5, hs5⟩
  refine RL.p rfl rfl rfl (PV_move rfl rfl) ?_
  refine RL.p rfl rfl rfl (PV_extract rfl rfl rfl) ?_
  refine RL.p rfl rfl rfl (PV_extract rfl rfl rfl) ?_
  refine RL.e rfl rfl rfl (EF_allocA rfl zr70 hs5) ?_
  rintro r6 w6 ⟨b12, rfl, hs6⟩
  refine RL.e0 rfl rfl (EF_storeA (cs := zl70) rfl rfl rfl sz70 rfl (by rw [one1_cons, one1_cons, one1_cons, one1_cons, one1_cons, one1_nil, hk5.cell]; rfl) hs6 (by first | exact u0 | exact u1 | exact u2 | exact u3 | exact u4 | exact u5 | exact u0.app | exact u1.app | exact u2.app | exact u3.app)) ?_
  rintro r7 w7 hs7
  refine RL.p rfl rfl rfl (PV_assign rfl rfl) ?_
  refine RL.done (nxt ?_)
  repeat first | apply W.seq | apply W.region
  refine RL.p rfl rfl rfl (PV_move rfl rfl) ?_
  refine RL.p rfl rfl rfl (PV_nei rfl rfl rfl) ?_
  refine RL.p rfl rfl rfl (PV_move rfl rfl) ?_
  refine RL.split 25 rfl (fun g1 => by exact absurd (of_decide_eq_true g1) (by decide)) (fun g1 => ?_)
  refine RL.gp rfl rfl rfl rfl g1 rfl rfl rfl (PV_move rfl rfl) ?_
  refine RL.gp rfl rfl rfl rfl g1 rfl rfl rfl (by first | exact PV_fieldAddr0 rfl rfl fa70_0 | exact PV_fieldAddr rfl rfl fa70_0) ?_
  refine RL.gs rfl rfl rfl rfl g1 rfl rfl rfl (PV_loadM1 rfl ag9 rfl (by first | exact m0 | exact m1 | exact m2 | exact m3 | exact m4 | exact m5 | exact mapp m0 | exact mapp m1 | exact mapp m2 | exact mapp m3) (by first | exact tc_34 | exact tc_35 | exact tc_36 | exact tc_0 | exact tc_1 | rfl)) hs7 ?_
  refine RL.ge rfl rfl rfl rfl g1 rfl rfl rfl (K2 rfl fn86 rfl rfl (C86 hs7)) ?_
  rintro r8 w8 ⟨rfl, hs8⟩
  refine RL.p rfl rfl rfl (PV_pickF rfl rfl g1 rfl) ?_
  refine RL.p rfl rfl rfl (PV_move rfl rfl) ?_
  refine RL.split 31 rfl (fun g2 => by cases g2) (fun g2 => ?_)
  refine RL.gp rfl rfl rfl rfl g2 rfl rfl rfl (PV_move rfl rfl) ?_
  refine RL.gp rfl rfl rfl rfl g2 rfl rfl rfl (PV_len rfl Tryz.underlying49 rfl) ?_
  refine RL.gp rfl rfl rfl rfl g2 rfl rfl rfl (PV_eqi rfl rfl rfl) ?_
  refine RL.gp rfl rfl rfl rfl g2 rfl rfl rfl (PV_move rfl rfl) ?_
  refine RL.split 35 rfl (fun g3 => ?_) (fun g3 => by exact absurd rfl (of_decide_eq_false g3))
  refine RL.gp rfl rfl rfl rfl g3 rfl rfl rfl (by first | exact PV_fieldAddr0 rfl rfl fa70_0 | exact PV_fieldAddr rfl rfl fa70_0) ?_
  refine RL.gs rfl rfl rfl rfl g3 rfl rfl rfl (PV_loadM1 rfl ag9 rfl (by first | exact m0 | exact m1 | exact m2 | exact m3 | exact m4 | exact m5 | exact mapp m0 | exact mapp m1 | exact mapp m2 | exact mapp m3) (by first | exact tc_34 | exact tc_35 | exact tc_36 | exact tc_0 | exact tc_1 | rfl)) hs8 ?_
  refine RL.gp rfl rfl rfl rfl g3 rfl rfl rfl (PV_nes rfl rfl rfl) ?_
  refine RL.gp rfl rfl rfl rfl g2 rfl rfl rfl (PV_pickT rfl rfl g3 rfl) ?_
  refine RL.p rfl rfl rfl (PV_pickF rfl rfl g2 rfl) ?_
  refine RL.done (nxt ?_)
  repeat first | apply W.seq | apply W.region
  refine W.cond rfl (fun h1 => ?_) (fun h1 => ?_)
  · simp [topS] at h1
  refine W.skip (nxt ?_)
  repeat first | apply W.seq | apply W.region
  refine RL.p rfl rfl rfl (by first | exact PV_fieldAddr0 rfl rfl fa42_2 | exact PV_fieldAddr rfl rfl fa42_2) ?_
  refine RL.p rfl rfl rfl (PV_indexArr (i := 3) rfl Tryz.underlying40 sz39 rfl rfl rfl (by decide)) ?_
  refine RL.s rfl rfl rfl (PV_loadMA (r := [kr 3, .int .i64 1]) rfl ag39 sz39 rfl m4 (by show _ ≤ 10; omega) (role_part (i := 3) (by decide))) hs8 ?_
  refine RL.e rfl rfl rfl (EF_allocA rfl zr39 hs8) ?_
  rintro r9 w9 ⟨b14, rfl, hs9⟩
  refine RL.e0 rfl rfl (EF_storeA (cs := zl39) rfl rfl rfl sz39 rfl (by rw [one1_cons, one1_cons, one1_nil, hkr.cell]; rfl) hs9 (by first | exact u0 | exact u1 | exact u2 | exact u3 | exact u4 | exact u5 | exact u0.app | exact u1.app | exact u2.app | exact u3.app)) ?_
  rintro r10 w10 hs10
  refine RL.p rfl rfl rfl (PV_assign rfl rfl) ?_
  refine RL.done (nxt ?_)
  repeat first | apply W.seq | apply W.region
  refine RL.p rfl rfl rfl (PV_move rfl rfl) ?_
  refine RL.p rfl rfl rfl (PV_len rfl Tryz.underlying49 rfl) ?_
  refine RL.p rfl rfl rfl (PV_gtr rfl rfl rfl) ?_
  refine RL.done (nxt ?_)
  repeat first | apply W.seq | apply W.region
  refine W.cond rfl (fun h2 => ?_) (fun h2 => ?_)
  · exact absurd (of_decide_eq_true h2) (by decide)
  refine W.skip (nxt ?_)
  repeat first | apply W.seq | apply W.region
  refine RL.s rfl rfl rfl (PV_loadMA (r := [.int .i64 n, .int .i64 et, kv]) rfl ag48 sz48 rfl m4 (by simp) rfl) hs10 ?_
  refine RL.p rfl rfl rfl (by first | exact PV_fieldAddr0 rfl rfl fa70_0 | exact PV_fieldAddr rfl rfl fa70_0) ?_
  refine RL.s rfl rfl rfl (PV_loadM1 rfl ag9 rfl (by first | exact m0 | exact m1 | exact m2 | exact m3 | exact m4 | exact m5 | exact mapp m0 | exact mapp m1 | exact mapp m2 | exact mapp m3) (by first | exact tc_34 | exact tc_35 | exact tc_36 | exact tc_0 | exact tc_1 | rfl)) hs10 ?_
  refine RL.e rfl rfl rfl (K2 rfl fn84 rfl rfl (C84 (hkv.le hj5) hs10)) ?_
  rintro r11 w11 ⟨rfl, hs11⟩
  refine RL.p rfl rfl rfl (PV_assign rfl rfl) ?_
  refine RL.done (nxt ?_)
  repeat first | apply W.seq | apply W.region
  refine W.block ?_
  repeat first | apply W.seq | apply W.region
  refine RL.p rfl rfl rfl (PV_move rfl rfl) ?_
  refine RL.p rfl rfl rfl (PV_not rfl rfl) ?_
  refine RL.p rfl rfl rfl (PV_assign rfl rfl) ?_
  refine RL.done (nxt ?_)
  repeat first | apply W.seq | apply W.region
  refine W.cond rfl (fun h3 => ?_) (fun h3 => ?_)
  · cases h3
  repeat first | apply W.seq | apply W.region
  refine RL.s rfl rfl rfl (PV_loadMA (r := [p, mv]) rfl ag63 sz63 rfl m3 (by simp) rfl) hs11 ?_
  refine RL.s rfl rfl rfl (PV_loadMA (r := [kr 3, .int .i64 1]) rfl ag39 sz39 rfl m0 (by simp) rfl) hs11 ?_
  refine RL.e rfl rfl rfl (K2 rfl fn81 rfl rfl (C81 hq (targets_len hok h) (he.le hj5) (hkr.le hj5) hs11)) ?_
  rintro r12 w12 ⟨rfl, hs12⟩
  refine RL.p rfl rfl rfl (PV_not rfl rfl) ?_
  refine RL.p rfl rfl rfl (PV_assign rfl rfl) ?_
  refine RL.done (nxt ?_)
  repeat first | apply W.seq | apply W.region
  refine W.cond rfl (fun h4 => ?_) (fun h4 => ?_)
  · cases h4
  repeat first | apply W.seq | apply W.region
  refine RL.p rfl rfl rfl (PV_move rfl rfl) ?_
  refine RL.p rfl rfl rfl (PV_eqi rfl rfl rfl) ?_
  refine RL.p rfl rfl rfl (PV_assign rfl rfl) ?_
  refine RL.done (nxt ?_)
  repeat first | apply W.seq | apply W.region
  refine W.cond rfl (fun h5 => ?_) (fun h5 => ?_)
  · exact absurd (of_decide_eq_true h5) (by omega)
  repeat first | apply W.seq | apply W.region
  refine RL.p rfl rfl rfl (PV_move rfl rfl) ?_
  refine RL.p rfl rfl rfl (by first | exact PV_fieldAddr0 rfl rfl fa70_1 | exact PV_fieldAddr rfl rfl fa70_1) ?_
  refine RL.s rfl rfl rfl (PV_loadM1 rfl ag3 rfl (by first | exact m0 | exact m1 | exact m2 | exact m3 | exact m4 | exact m5 | exact mapp m0 | exact mapp m1 | exact mapp m2 | exact mapp m3) (by first | exact tc_34 | exact tc_35 | exact tc_36 | exact tc_0 | exact tc_1 | rfl)) hs12 ?_
  refine RL.p rfl rfl rfl (PV_nei rfl rfl rfl) ?_
  refine RL.p rfl rfl rfl (PV_assign rfl rfl) ?_
  refine RL.done (nxt ?_)
  repeat first | apply W.seq | apply W.region
  refine W.cond rfl (fun h6 => ?_) (fun h6 => ?_)
  · exact absurd rfl (of_decide_eq_true h6)
  repeat first | apply W.seq | apply W.region
  refine RL.p rfl rfl rfl (by first | exact PV_fieldAddr0 rfl rfl fa70_2 | exact PV_fieldAddr rfl rfl fa70_2) ?_
  refine RL.s rfl rfl rfl (PV_loadM1 rfl ag3 rfl (by first | exact m0 | exact m1 | exact m2 | exact m3 | exact m4 | exact m5 | exact mapp m0 | exact mapp m1 | exact mapp m2 | exact mapp m3) (by first | exact tc_34 | exact tc_35 | exact tc_36 | exact tc_0 | exact tc_1 | rfl)) hs12 ?_
  refine RL.p rfl rfl rfl (PV_move rfl rfl) ?_
  refine RL.p rfl rfl rfl (PV_leq rfl rfl rfl) ?_
  refine RL.p rfl rfl rfl (PV_assign rfl rfl) ?_
  refine RL.done (nxt ?_)
  repeat first | apply W.seq | apply W.region
  refine W.cond rfl (fun h7 => ?_) (fun h7 => ?_)
  · exact absurd (of_decide_eq_true h7) (by omega)
  refine W.skip (nxt ?_)
  repeat first | apply W.seq | apply W.region
  refine RL.s rfl rfl rfl (PV_loadMA (r := [.string topS, .int .i64 n, .int .i64 e, lv5, .slice none 0 0]) rfl ag70 sz70 rfl m1 (by simp) rfl) hs12 ?_
  refine RL.e0 rfl rfl (EF_storeA (cs := zl70) rfl rfl rfl sz70 rfl (by rw [one1_cons, one1_cons, one1_cons, one1_cons, one1_cons, one1_nil, hk5.cell]; rfl) hs12 (by first | exact u0 | exact u1 | exact u2 | exact u3 | exact u4 | exact u5 | exact u0.app | exact u1.app | exact u2.app | exact u3.app)) ?_
  rintro r13 w13 hs13
  refine RL.p rfl rfl rfl (PV_assign rfl rfl) ?_
  refine RL.done (nxt ?_)
  repeat first | apply W.seq | apply W.region
  exact W.ret (ret_cell2 rfl rfl rfl (ldA ag70 sz70 hs13 m2 rfl) ⟨_, rfl, J5, lv5, hj5, rfl, hk5, hs13.tail.tail.tail.tail.tail.tail⟩) --hs13.tail.tail.tail.tail.tail.tail⟩)

end Go.Proofs.YtecbpmgfikgoaaaGreatDoor
