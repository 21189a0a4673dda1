/- Walks of functions 45 18: what each call gives back, and that it writes nothing of anybody else's. Conditions: as each theorem says. -/
import Derived.Test.YtecbpmgfikgoaaaGreatDoorX13
set_option linter.unusedVariables false
set_option linter.unusedSimpArgs false
set_option maxRecDepth 8000
set_option maxHeartbeats 4000000
namespace Go.Proofs.YtecbpmgfikgoaaaGreatDoor
open Go Go.RowKit
variable {G w : World} {M : List Chunk} {I : Imm}

theorem rbody_len {s : List UInt8} {i : Nat} (hi : i ≤ 2 ^ 18) : (rbody s i).length ≤ 2 ^ 40 := by
  rw [rbody_eq (by omega)]
  exact rootE_len (by omega) fun j _ => length_roleH _ _ j

theorem C45r {s : List UInt8} {m : Nat} {v : Value} {ecs : List Value} (hm : m ≤ 16) (hv : SlM G M I 2 v m ecs) (hec : rootOk I s ecs m) (hs : Sat G M I w) : Calls Tryz.prog 45 #[v] w (Ret fun r w' => ∃ J ecs', Le I J ∧ SlI J 2 r m ecs' ∧ rootOk J s ecs' m ∧ Sat G M J w') := by
  obtain ⟨A, c, rfl, hc⟩ := hv.shape
  refine enter1 Tryz.func45 rfl Tryz.ntmps45 rfl ?_
  repeat first | apply W.seq | apply W.region
  refine RL.p rfl rfl rfl (PV_assign rfl rfl) ?_
  refine RL.done (nxt ?_)
  repeat first | apply W.seq | apply W.region
  refine RL.p rfl rfl rfl (PV_assign rfl rfl) ?_
  refine RL.done (nxt ?_)
  repeat first | apply W.seq | apply W.region
  refine RL.p rfl rfl rfl (PV_move rfl rfl) ?_
  refine RL.p rfl rfl rfl (PV_len rfl Tryz.underlying59 rfl) ?_
  refine RL.p rfl rfl rfl (PV_move rfl rfl) ?_
  refine RL.done (nxt ?_)
  repeat first | apply W.seq | apply W.region
  refine W.block ?_
  repeat first | apply W.seq | apply W.region
  refine W.loop (F := fun z : Nat × Value => [(8, .int .i64 (z.1 : Int)), (7, .int .i64 (m : Int)), (6, .slice A m c), (3, z.2)]) (J := fun z w => z.1 ≤ m ∧ ∃ J ecs' L, Le I J ∧ OwnS 63 2 z.2 ecs' L ∧ rootOk J s ecs' z.1 ∧ Sat G (L ++ M) J w) (m := fun z => m - z.1) (0, .slice none 0 0) (by repeat first | exact Sub.nil | refine Sub.cons rfl ?_) ⟨by omega, I, [], [], Le.refl _, OwnS.nil, ⟨rfl, fun i h => absurd h (by dsimp only; omega)⟩, hs⟩ ?_
  rintro ⟨i, x⟩ w1 ⟨hi, J, ecs1, L, hj, ho, hx, hs1⟩
  dsimp only at hi ho hx hs1
  repeat first | apply W.seq | apply W.region
  refine RL.p rfl rfl rfl (PV_lss rfl rfl rfl) ?_
  refine RL.done (nxt ?_)
  repeat first | apply W.seq | apply W.region
  refine W.cond rfl (fun h1 => ?_) (fun h1 => ?_)
  ·
    have hi1 : i < m := by have := of_decide_eq_true h1; dsimp only at this; omega
    obtain ⟨bb, off, c1, hab, hc1, hmem⟩ := hv.elem (by omega)
    simp only [Value.slice.injEq] at hab
    obtain ⟨rfl, -, rfl⟩ := hab
    obtain ⟨u, mv, hu, hmv, he⟩ := hec.2 i hi1
    refine W.skip (nxt ?_)
    repeat first | apply W.seq | apply W.region
    refine W.block ?_
    repeat first | apply W.seq | apply W.region
    refine RL.p rfl rfl rfl (PV_indexAddr rfl Tryz.underlying59 sz63 rfl rfl rfl (by omega)) ?_
    refine RL.s rfl rfl rfl (PV_loadMemA (r := [u, mv]) (j := i * 2) rfl ag63 sz63 rfl (fun _ h => h.drop.le hj) hmem (by rw [hec.1]; omega) (ec_part hu hmv)) hs1 ?_
    refine RL.e rfl rfl rfl (EF_allocA rfl zr63 hs1) ?_
    rintro r2 w2 ⟨b5, rfl, hs2⟩
    refine RL.e0 rfl rfl (EF_storeA (cs := zl63) rfl rfl rfl sz63 rfl he.one hs2 (by first | exact u0 | exact u1 | exact u2 | exact u3 | exact u4 | exact u5 | exact u0.app | exact u1.app | exact u2.app | exact u3.app)) ?_
    rintro r3 w3 hs3
    refine RL.done (nxt ?_)
    repeat first | apply W.seq | apply W.region
    refine RL.p rfl rfl rfl (PV_move rfl rfl) ?_
    refine RL.s rfl rfl rfl (PV_loadMA rfl ag63 sz63 rfl (by first | exact m0 | exact m1 | exact m2 | exact m3 | exact m4 | exact m5 | exact mapp m0 | exact mapp m1 | exact mapp m2 | exact mapp m3) (by simp) (part_whole rfl)) hs3 ?_
    refine RL.e rfl rfl rfl (K1 rfl fn46 rfl (C46 (length_keyH _) (rbody_len (by omega)) (he.le hj) hs3)) ?_
    rintro r4 w4 ⟨J4, p4, m4, hj4, rfl, he4, hs4⟩
    refine RL.e rfl rfl rfl (EF_bs1a rfl el59 rfl rfl (by decide) hs4) ?_
    rintro r5 w5 ⟨b15, rfl, hs5⟩
    refine RL.e rfl rfl rfl (EF_append (l := i) (m := 1) (news := [p4, m4]) rfl el59 rfl rfl ho hx.1 (rdW (m := 1) hs5 m0 rfl (Nat.le_refl _)) he4.one (by omega) (by decide) hs5.mid2) ?_
    rintro r6 w6 ⟨L6, ho6, hs6⟩
    refine RL.p rfl rfl rfl (PV_assign rfl rfl) ?_
    refine RL.done (nxt ?_)
    repeat first | apply W.seq | apply W.region
    refine RL.p rfl rfl rfl (PV_add rfl rfl rfl (by omega)) ?_
    refine RL.p rfl rfl rfl (PV_move rfl rfl) ?_
    refine RL.done (round_end (i + 1, r6) ?_ ?_ ?_)
    · repeat first | exact Sub.nil | refine Sub.cons rfl ?_
    · exact ⟨by dsimp only; omega, J4, ecs1 ++ [p4, m4], L6, hj.trans hj4, ho6, (hx.le hj4).snoc he4, (hs6.del (Del.app x0)).del (Del.app x0)⟩
    · first | omega | (dsimp only; omega)
  repeat first | apply W.seq | apply W.region
  refine W.exit (nxt ?_)
  repeat first | apply W.seq | apply W.region
  refine RL.p rfl rfl rfl (PV_move rfl rfl) ?_
  refine RL.p rfl rfl rfl (PV_assign rfl rfl) ?_
  refine RL.done (nxt ?_)
  repeat first | apply W.seq | apply W.region
  obtain rfl : i = m := by have := of_decide_eq_false h1; dsimp only at this; omega
  obtain ⟨J7, hj7, hv7, hs7⟩ := OwnS.freeze (m := i) (sz := 2) ho hx.1 (by decide) hs1
  exact  W.ret (ret_tmp rfl rfl ⟨_, rfl, J7, ecs1, hj.trans hj7, hv7, hx.le hj7, hs7⟩)

theorem C18r {rb q m : Nat} {rc : List Value} {b : Nat → Value} {s s1 : List UInt8} {ecs : List Value} {K : List Tgt} {n e : Int} (hr : (rb, rc, 78) ∈ M) (hrl : rc.length = 64) (hp : part rc 57 6 = [b 0, b 1, b 2, b 3, b 4, b 5]) (hm : m ≤ 16) (hv0 : SlM G M I 2 (b 0) m ecs) (hec : rootOk I s ecs m) (hlM : (bodyM n e).length ≤ 2 ^ 40) (hlS : (bodyS n e).length ≤ 2 ^ 40) (hlT : (bodyT n e K).length ≤ 2 ^ 40) (hb : SignedI I b s1 q K n e) (hs : Sat G M I w) :
    Calls Tryz.prog 18 #[ptr rb 0] w (Ret fun r w' => ∃ J rv ecs' b', Le I J ∧ r = aggL [rv, b' 1, b' 2, b' 3, b' 4, b' 5] ∧ SlI J 2 rv m ecs' ∧ rootOk J s ecs' m ∧ SignedI J b' s1 q K n e ∧ Sat G M J w') := by
  obtain ⟨hbM, hbS, pT, mT, hvT, hbT⟩ := hb
  have h58 : part rc 58 2 = [b 1, b 2] := part_part (i := 1) hp rfl
  have h60 : part rc 60 2 = [b 3, b 4] := part_part (i := 3) hp rfl
  refine enter1 Tryz.func18 rfl Tryz.ntmps18 rfl ?_
  repeat first | apply W.seq | apply W.region
  refine RL.e rfl rfl rfl (EF_allocA rfl zr65 hs) ?_
  rintro r1 w1 ⟨b2, rfl, hs1⟩
  refine RL.done (nxt ?_)
  repeat first | apply W.seq | apply W.region
  refine RL.p rfl rfl rfl (PV_move rfl rfl) ?_
  refine RL.p rfl rfl rfl (PV_eqnil rfl Tryz.underlying27 rfl rfl) ?_
  refine RL.done (nxt ?_)
  repeat first | apply W.seq | apply W.region
  refine W.cond rfl (fun h1 => ?_) (fun h1 => ?_)
  · cases h1
  refine W.skip (nxt ?_)
  repeat first | apply W.seq | apply W.region
  refine W.drawsH hs1 [(0, true), (1, true), (2, true), (3, true), (4, true), (6, true), (7, true), (8, true), (9, true), (10, true), (12, true), (13, true), (14, true), (15, true), (16, true), (18, true), (19, true), (20, true), (21, true), (22, true), (5, false), (11, false), (17, false), (23, false), (24, false), (25, false)] mixed (by kernel_rfl) (by kernel_rfl) ?_
  have hs2 := hs1.drew
  refine TW.p rfl rfl rfl rfl (PV_move rfl rfl) (hs2) ?_
  refine TW.p rfl rfl rfl rfl (PV_nilCheckP rfl rfl) (hs2) ?_
  refine TW.p rfl rfl rfl rfl (by first | exact PV_fieldAddr0 rfl rfl fa78_7 | exact PV_fieldAddr rfl rfl fa78_7) (hs2) ?_
  refine TW.p rfl rfl rfl rfl (by first | exact PV_fieldAddr0 rfl rfl fa65_0 | exact PV_fieldAddr rfl rfl fa65_0) (hs2) ?_
  refine TW.s rfl rfl rfl rfl (PV_loadM1 rfl ag59 rfl (.tail _ hr) (part_at (i := 0) hp rfl (by decide))) (hs2) ?_
  refine TW.p rfl rfl rfl rfl (PV_move rfl rfl) (hs2) ?_
  refine TW.p rfl rfl rfl rfl (PV_nilCheckP rfl rfl) (hs2) ?_
  refine TW.p rfl rfl rfl rfl (by first | exact PV_fieldAddr0 rfl rfl fa78_7 | exact PV_fieldAddr rfl rfl fa78_7) (hs2) ?_
  refine TW.p rfl rfl rfl rfl (by first | exact PV_fieldAddr0 rfl rfl fa65_1 | exact PV_fieldAddr rfl rfl fa65_1) (hs2) ?_
  refine TW.s rfl rfl rfl rfl (PV_loadMA rfl ag63 sz63 rfl (.tail _ hr) (by rw [hrl]; decide) h58) (hs2) ?_
  refine TW.p rfl rfl rfl rfl (PV_move rfl rfl) (hs2) ?_
  refine TW.p rfl rfl rfl rfl (PV_nilCheckP rfl rfl) (hs2) ?_
  refine TW.p rfl rfl rfl rfl (by first | exact PV_fieldAddr0 rfl rfl fa78_7 | exact PV_fieldAddr rfl rfl fa78_7) (hs2) ?_
  refine TW.p rfl rfl rfl rfl (by first | exact PV_fieldAddr0 rfl rfl fa65_2 | exact PV_fieldAddr rfl rfl fa65_2) (hs2) ?_
  refine TW.s rfl rfl rfl rfl (PV_loadMA rfl ag63 sz63 rfl (.tail _ hr) (by rw [hrl]; decide) h60) (hs2) ?_
  refine TW.p rfl rfl rfl rfl (PV_move rfl rfl) (hs2) ?_
  refine TW.p rfl rfl rfl rfl (PV_nilCheckP rfl rfl) (hs2) ?_
  refine TW.p rfl rfl rfl rfl (by first | exact PV_fieldAddr0 rfl rfl fa78_7 | exact PV_fieldAddr rfl rfl fa78_7) (hs2) ?_
  refine TW.p rfl rfl rfl rfl (by first | exact PV_fieldAddr0 rfl rfl fa65_3 | exact PV_fieldAddr rfl rfl fa65_3) (hs2) ?_
  refine TW.s rfl rfl rfl rfl (PV_loadM1 rfl ag59 rfl (.tail _ hr) (part_at (i := 5) hp rfl (by decide))) (hs2) ?_
  refine TW.e rfl rfl rfl rfl (K1 rfl fn45 rfl (C45r hm (hv0.mono fun _ h => h.tail) hec hs2)) ?_
  rintro r3 w3 ⟨J3, ecs3, hj3, hv3, hec3, hs3⟩
  obtain ⟨A3, c3, rfl, _⟩ := SlI.shape hv3
  refine ⟨((hs3).le hj3), ?_⟩
  refine TW.e rfl rfl rfl rfl (K1 rfl fn46 rfl (C46 (length_keyH s1) hlM (hbM.le hj3) hs3)) ?_
  rintro r4 w4 ⟨J4, p4, m4, hj4, rfl, he4, hs4⟩
  refine ⟨((hs4).le (hj3.trans hj4)), ?_⟩
  refine TW.e rfl rfl rfl rfl (K1 rfl fn46 rfl (C46 (length_keyH s1) hlS (hbS.le (hj3.trans hj4)) hs4)) ?_
  rintro r5 w5 ⟨J5, p5, m5, hj5, rfl, he5, hs5⟩
  refine ⟨((hs5).le (hj3.trans (hj4.trans hj5))), ?_⟩
  refine TW.e rfl rfl rfl rfl (K1 rfl fn45 rfl (C45 (length_keyH s1) hlT (hvT.le (hj3.trans (hj4.trans hj5))) (hbT.le (hj3.trans (hj4.trans hj5))) hs5)) ?_
  rintro r6 w6 ⟨J6, p6, m6, hj6, hv6, he6, hs6⟩
  obtain ⟨A6, c6, rfl, _⟩ := SlI.shape hv6
  refine ⟨((hs6).le (hj3.trans (hj4.trans (hj5.trans hj6)))), ?_⟩
  refine TW.q rfl rfl rfl rfl (T := fun _ => True) (PV_buildS (cs := [.slice A3 m c3, p4, m4, p5, m5, .slice A6 1 c6]) rfl pl65 zr65 rfl rfl) trivial (fun _ => ((hs6).le (hj3.trans (hj4.trans (hj5.trans hj6))))) ?_
  refine TW.en0 rfl rfl rfl (by kernel_rfl) (EF_storeA (cs := zl65) rfl rfl rfl sz65 rfl (env_one he4 he5) hs6 (by first | exact u0 | exact u1 | exact u2 | exact u3 | exact u4 | exact u5 | exact u0.app | exact u1.app | exact u2.app | exact u3.app)) ?_
  rintro r7 w7 hs7
  refine TW.done (nxt ?_)
  repeat first | apply W.seq | apply W.region
  exact W.ret (ret_cell rfl rfl (ldA ag65 sz65 hs7 (by first | exact m0 | exact m1 | exact m2 | exact m3 | exact m4 | exact m5 | exact mapp m0 | exact mapp m1 | exact hm) rfl) ⟨_, rfl, J6, .slice A3 m c3, ecs3, (fun i => if i = 1 then p4 else if i = 2 then m4 else if i = 3 then p5 else if i = 4 then m5 else .slice A6 1 c6), hj3.trans (hj4.trans (hj5.trans hj6)), rfl, hv3.le (hj4.trans (hj5.trans hj6)), hec3.le (hj4.trans (hj5.trans hj6)), ⟨he4.le (hj5.trans hj6), he5.le hj6, p6, m6, hv6, he6⟩, hs7.tail⟩)

end Go.Proofs.YtecbpmgfikgoaaaGreatDoor
