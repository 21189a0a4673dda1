/- Walks of functions 126 81 79: what each call gives back, and that it writes nothing of anybody else's. Conditions: as each theorem says. -/
import Derived.Test.YtecbpmgfikgoaaaGreatDoorX9
set_option linter.unusedVariables false
set_option linter.unusedSimpArgs false
set_option maxRecDepth 8000
set_option maxHeartbeats 4000000
namespace Go.Proofs.YtecbpmgfikgoaaaGreatDoor
open Go Go.RowKit
variable {G w : World} {M : List Chunk} {I : Imm}

theorem C148s {sd body : List UInt8} {p cv pv : Value} {q : Nat} (hq : q < 16) (hl : body.length ≤ 2 ^ 40) (hp : SlB I p body) (hc : SlI I 32 cv 36 (bcells (chainsH sd q body))) (hpa : SlI I 32 pv 4 (bcells (pathH 4 (leavesH sd) q))) (hs : Sat G M I w) : Calls Tryz.prog 148 #[aggL (bcells (keyH sd)), p, aggL [.int .i64 (q : Int), cv, pv]] w (Ret fun r w' => r = .bool true ∧ Sat G M I w') := by
  have h := C148 (pub := keyH sd) (f := chainH sd q body) (length_keyH sd) hq (length_chainH sd q body) hl (length_pathH 4 (leavesH sd) q (length_leavesH sd)) hp.toM hc hpa hs
  rw [recH_pub, key_up hq, beq_self_eq_true] at h
  exact h
theorem mark_h {h : List UInt8} {a b c : Value} (h32 : h.length = 32) : part (bcells h ++ [a, b, c]) 0 32 = bcells h := by
  rw [part, List.drop_zero, List.take_left' (by rw [length_bcells, h32])]
theorem mark_s {h : List UInt8} {a b c : Value} (h32 : h.length = 32) : part (bcells h ++ [a, b, c]) 32 3 = [a, b, c] := by
  rw [part, List.drop_left' (by rw [length_bcells, h32])]
  rfl

theorem C126 {sd body : List UInt8} {p mv kv : Value} {q : Nat} (hq : q < 16) (hl : body.length ≤ 2 ^ 40) (he : EnvI I p mv body (keyH sd) q (chainsH sd q body) (pathH 4 (leavesH sd) q)) (hv : SlI I 32 kv 1 (bcells (keyH sd))) (hs : Sat G M I w) : Calls Tryz.prog 126 #[aggL [p, mv], aggL [kv, .int .i64 1]] w (Ret fun r w' => ∃ A c, r = .slice A 1 c ∧ Sat G M I w') := by
  obtain ⟨hp, cv, pv, hm, hc, hpa⟩ := he
  obtain ⟨mb, mo, mc, rfl, hmc, hmm⟩ := hm.mem (by decide)
  obtain ⟨kb, ko, kc, rfl, hkc, hkm⟩ := hv.mem (by decide)
  have h32 := length_keyH sd
  refine enter2 Tryz.func126 rfl Tryz.ntmps126 rfl ?_
  repeat first | apply W.seq | apply W.region
  refine RL.e rfl rfl rfl (EF_boxA rfl rfl hs) ?_
  rintro r1 w1 ⟨b2, rfl, hs1⟩
  refine RL.e rfl rfl rfl (EF_boxA rfl rfl hs1) ?_
  rintro r2 w2 ⟨b3, rfl, hs2⟩
  refine RL.p rfl rfl rfl (PV_assign rfl rfl) ?_
  refine RL.done (nxt ?_)
  repeat first | apply W.seq | apply W.region
  refine RL.p rfl rfl rfl (PV_assign rfl rfl) ?_
  refine RL.done (nxt ?_)
  repeat first | apply W.seq | apply W.region
  refine RL.p rfl rfl rfl (PV_assign rfl rfl) ?_
  refine RL.done (nxt ?_)
  repeat first | apply W.seq | apply W.region
  refine W.block ?_
  repeat first | apply W.seq | apply W.region
  refine W.loop (F := fun z : Nat × Value => [(6, .int .i64 (z.1 : Int)), (5, z.2), (2, ptr b2 0), (3, ptr b3 0)]) (J := fun z w => z.1 ≤ 1 ∧ ∃ L, OwnS 24 32 z.2 (bcells (hI (keyH sd) z.1)) L ∧ Sat G (L ++ (b3, [.slice (some ⟨kb, ko, none⟩) 1 kc, .int .i64 1], 39) :: (b2, [p, .slice (some ⟨mb, mo, none⟩) 1 mc], 63) :: M) I w) (m := fun z => 1 - z.1) (0, .slice none 0 0) (by repeat first | exact Sub.nil | refine Sub.cons rfl ?_) ⟨by omega, [], OwnS.nil, hs2⟩ ?_
  rintro ⟨i, x⟩ w3 ⟨hi, L, ho, hs3⟩
  dsimp only at hi ho hs3
  repeat first | apply W.seq | apply W.region
  refine RL.p rfl rfl rfl (PV_move rfl rfl) ?_
  refine RL.p rfl rfl rfl (by first | exact PV_fieldAddr0 rfl rfl fa39_0 | exact PV_fieldAddr rfl rfl fa39_0) ?_
  refine RL.s rfl rfl rfl (PV_loadM1 rfl ag37 rfl (by first | exact m0 | exact m1 | exact m2 | exact m3 | exact m4 | exact m5 | exact mapp m0 | exact mapp m1 | exact mapp m2 | exact mapp m3) (by first | exact tc_34 | exact tc_35 | exact tc_36 | exact tc_0 | exact tc_1 | rfl)) hs3 ?_
  refine RL.p rfl rfl rfl (PV_len rfl Tryz.underlying37 rfl) ?_
  refine RL.p rfl rfl rfl (PV_lss rfl rfl rfl) ?_
  refine RL.done (nxt ?_)
  repeat first | apply W.seq | apply W.region
  refine W.cond rfl (fun h1 => ?_) (fun h1 => ?_)
  ·
    obtain rfl : i = 0 := by have := of_decide_eq_true h1; dsimp only at this; omega
    refine W.skip (nxt ?_)
    repeat first | apply W.seq | apply W.region
    refine W.block ?_
    repeat first | apply W.seq | apply W.region
    refine RL.p rfl rfl rfl (PV_assign rfl rfl) ?_
    refine RL.done (nxt ?_)
    repeat first | apply W.seq | apply W.region
    refine RL.p rfl rfl rfl (PV_assign rfl rfl) ?_
    refine RL.done (nxt ?_)
    repeat first | apply W.seq | apply W.region
    refine W.block ?_
    repeat first | apply W.seq | apply W.region
    refine W.loop (F := fun _ : Unit => [(8, .int .i64 0), (7, .bool false), (6, .int .i64 ((0 : Nat) : Int)), (5, x), (2, ptr b2 0), (3, ptr b3 0)]) (J := fun _ w => Sat G (L ++ (b3, [.slice (some ⟨kb, ko, none⟩) 1 kc, .int .i64 1], 39) :: (b2, [p, .slice (some ⟨mb, mo, none⟩) 1 mc], 63) :: M) I w) (m := fun _ => 0) () (by repeat first | exact Sub.nil | refine Sub.cons rfl ?_) hs3 ?_
    rintro _ w4 hs4
    repeat first | apply W.seq | apply W.region
    refine RL.p rfl rfl rfl (PV_move rfl rfl) ?_
    refine RL.p rfl rfl rfl (PV_move rfl rfl) ?_
    refine RL.p rfl rfl rfl (PV_lss rfl rfl rfl) ?_
    refine RL.done (nxt ?_)
    repeat first | apply W.seq | apply W.region
    refine W.cond rfl (fun h2 => ?_) (fun h2 => ?_)
    · exact absurd (of_decide_eq_true h2) (by decide)
    repeat first | apply W.seq | apply W.region
    refine W.exit (nxt ?_)
    repeat first | apply W.seq | apply W.region
    refine RL.p rfl rfl rfl (PV_assign rfl rfl) ?_
    refine RL.done (nxt ?_)
    repeat first | apply W.seq | apply W.region
    refine W.block ?_
    repeat first | apply W.seq | apply W.region
    refine W.loop (F := fun z : Nat × Value => [(9, .int .i64 (z.1 : Int)), (7, .bool (decide (z.1 = 1))), (5, z.2), (6, .int .i64 ((0 : Nat) : Int)), (2, ptr b2 0), (3, ptr b3 0)]) (J := fun z w => z.1 ≤ 1 ∧ ∃ L, OwnS 24 32 z.2 (bcells (hI (keyH sd) z.1)) L ∧ Sat G (L ++ (b3, [.slice (some ⟨kb, ko, none⟩) 1 kc, .int .i64 1], 39) :: (b2, [p, .slice (some ⟨mb, mo, none⟩) 1 mc], 63) :: M) I w) (m := fun z => 1 - z.1) (0, x) (by repeat first | exact Sub.nil | refine Sub.cons rfl ?_) ⟨by omega, L, ho, hs4⟩ ?_
    rintro ⟨j, y⟩ w5 ⟨hj, L5, ho5, hs5⟩
    dsimp only at hj ho5 hs5
    repeat refine W.seq ?_
    refine W.cut (fun b : Bool => [(48, .bool b), (9, .int .i64 (j : Int)), (7, .bool (decide (j = 1))), (5, y), (6, .int .i64 ((0 : Nat) : Int)), (2, ptr b2 0), (3, ptr b3 0)]) (fun b w => (b = true → j = 0) ∧ (b = false → j = 1) ∧ Sat G (L5 ++ (b3, [.slice (some ⟨kb, ko, none⟩) 1 kc, .int .i64 1], 39) :: (b2, [p, .slice (some ⟨mb, mo, none⟩) 1 mc], 63) :: M) I w) ?_ ?_
    ·
      refine W.region ?_
      refine RL.p rfl rfl rfl (PV_move rfl rfl) ?_
      refine RL.p rfl rfl rfl (by first | exact PV_fieldAddr0 rfl rfl fa63_1 | exact PV_fieldAddr rfl rfl fa63_1) ?_
      refine RL.s rfl rfl rfl (PV_loadM1 rfl ag61 rfl (by first | exact m0 | exact m1 | exact m2 | exact m3 | exact m4 | exact m5 | exact mapp m0 | exact mapp m1 | exact mapp m2 | exact mapp m3) (by first | exact tc_34 | exact tc_35 | exact tc_36 | exact tc_0 | exact tc_1 | rfl)) hs5 ?_
      refine RL.p rfl rfl rfl (PV_len rfl Tryz.underlying61 rfl) ?_
      refine RL.p rfl rfl rfl (PV_lss rfl rfl rfl) ?_
      refine RL.p rfl rfl rfl (PV_move rfl rfl) ?_
      refine RL.split 41 rfl (fun g1 => ?_) (fun g1 => ?_)
      ·
        refine RL.gp rfl rfl rfl rfl g1 rfl rfl rfl (PV_move rfl rfl) ?_
        refine RL.gp rfl rfl rfl rfl g1 rfl rfl rfl (PV_lss rfl rfl rfl) ?_
        refine RL.p rfl rfl rfl (PV_pickT rfl rfl g1 rfl) ?_
        refine RL.p rfl rfl rfl (PV_move rfl rfl) ?_
        refine RL.split 45 rfl (fun g2 => ?_) (fun g2 => ?_)
        ·
          refine RL.gp rfl rfl rfl rfl g2 rfl rfl rfl (PV_move rfl rfl) ?_
          refine RL.gp rfl rfl rfl rfl g2 rfl rfl rfl (PV_not rfl rfl) ?_
          refine RL.p rfl rfl rfl (PV_pickT rfl rfl g2 rfl) ?_
          exact RL.done (cut_end (F := (fun b : Bool => [(48, .bool b), (9, .int .i64 (j : Int)), (7, .bool (decide (j = 1))), (5, y), (6, .int .i64 ((0 : Nat) : Int)), (2, ptr b2 0), (3, ptr b3 0)])) (J := (fun b w => (b = true → j = 0) ∧ (b = false → j = 1) ∧ Sat G (L5 ++ (b3, [.slice (some ⟨kb, ko, none⟩) 1 kc, .int .i64 1], 39) :: (b2, [p, .slice (some ⟨mb, mo, none⟩) 1 mc], 63) :: M) I w)) _ (by repeat first | exact Sub.nil | refine Sub.cons rfl ?_) (by exact (by first | exact ⟨fun _ => (by have := of_decide_eq_true g1; dsimp only at this; omega), fun h => (by have := of_decide_eq_true g1; simp at h; dsimp only at this; omega), hs5⟩ | exact absurd (of_decide_eq_false g2) (by have := of_decide_eq_true g1; dsimp only at *; omega) | exact ⟨fun h => (by cases h), fun _ => (by have := of_decide_eq_false g1; dsimp only at this; omega), hs5⟩)))
        ·
          refine RL.gk rfl rfl rfl rfl g2 rfl rfl rfl ?_
          refine RL.gk rfl rfl rfl rfl g2 rfl rfl rfl ?_
          refine RL.p rfl rfl rfl (PV_pickF rfl rfl g2 rfl) ?_
          exact RL.done (cut_end (F := (fun b : Bool => [(48, .bool b), (9, .int .i64 (j : Int)), (7, .bool (decide (j = 1))), (5, y), (6, .int .i64 ((0 : Nat) : Int)), (2, ptr b2 0), (3, ptr b3 0)])) (J := (fun b w => (b = true → j = 0) ∧ (b = false → j = 1) ∧ Sat G (L5 ++ (b3, [.slice (some ⟨kb, ko, none⟩) 1 kc, .int .i64 1], 39) :: (b2, [p, .slice (some ⟨mb, mo, none⟩) 1 mc], 63) :: M) I w)) _ (by repeat first | exact Sub.nil | refine Sub.cons rfl ?_) (by exact (by first | exact ⟨fun _ => (by have := of_decide_eq_true g1; dsimp only at this; omega), fun h => (by have := of_decide_eq_true g1; simp at h; dsimp only at this; omega), hs5⟩ | exact absurd (of_decide_eq_false g2) (by have := of_decide_eq_true g1; dsimp only at *; omega) | exact ⟨fun h => (by cases h), fun _ => (by have := of_decide_eq_false g1; dsimp only at this; omega), hs5⟩)))
      ·
        refine RL.gk rfl rfl rfl rfl g1 rfl rfl rfl ?_
        refine RL.gk rfl rfl rfl rfl g1 rfl rfl rfl ?_
        refine RL.p rfl rfl rfl (PV_pickF rfl rfl g1 rfl) ?_
        refine RL.p rfl rfl rfl (PV_move rfl rfl) ?_
        refine RL.gk rfl rfl rfl rfl rfl rfl rfl rfl ?_
        refine RL.gk rfl rfl rfl rfl rfl rfl rfl rfl ?_
        refine RL.p rfl rfl rfl (PV_pickF rfl rfl rfl rfl) ?_
        exact RL.done (cut_end (F := (fun b : Bool => [(48, .bool b), (9, .int .i64 (j : Int)), (7, .bool (decide (j = 1))), (5, y), (6, .int .i64 ((0 : Nat) : Int)), (2, ptr b2 0), (3, ptr b3 0)])) (J := (fun b w => (b = true → j = 0) ∧ (b = false → j = 1) ∧ Sat G (L5 ++ (b3, [.slice (some ⟨kb, ko, none⟩) 1 kc, .int .i64 1], 39) :: (b2, [p, .slice (some ⟨mb, mo, none⟩) 1 mc], 63) :: M) I w)) _ (by repeat first | exact Sub.nil | refine Sub.cons rfl ?_) (by exact (by first | exact ⟨fun _ => (by have := of_decide_eq_true g1; dsimp only at this; omega), fun h => (by have := of_decide_eq_true g1; simp at h; dsimp only at this; omega), hs5⟩ | exact absurd (of_decide_eq_false g2) (by have := of_decide_eq_true g1; dsimp only at *; omega) | exact ⟨fun h => (by cases h), fun _ => (by have := of_decide_eq_false g1; dsimp only at this; omega), hs5⟩)))
    rintro b48 w105 ⟨hT, hF, hs105⟩
    refine nxt ?_
    repeat first | apply W.seq | apply W.region
    refine W.cond rfl (fun h3 => ?_) (fun h3 => ?_)
    ·
      obtain rfl : j = 0 := hT h3
      replace ho5 : OwnS 24 32 y [] L5 := ho5
      refine W.skip (nxt ?_)
      repeat first | apply W.seq | apply W.region
      refine W.block ?_
      repeat first | apply W.seq | apply W.region
      refine W.drawsH hs105 [(0, true), (1, true), (2, true), (3, true), (4, true), (5, true), (6, true), (7, true), (8, false), (9, false), (10, false), (11, false), (12, false), (13, true), (14, true), (15, true), (16, true), (17, true), (18, true), (19, true), (20, true), (21, true), (22, false), (23, false), (24, false), (25, false), (26, false), (27, false)] mixed (by kernel_rfl) (by kernel_rfl) ?_
      have hs106 := hs105.drew
      refine TW.p rfl rfl rfl rfl (by first | exact PV_fieldAddr0 rfl rfl fa63_1 | exact PV_fieldAddr rfl rfl fa63_1) hs106 ?_
      refine TW.s rfl rfl rfl rfl (PV_loadM1 rfl ag61 rfl (by first | exact m0 | exact m1 | exact m2 | exact m3 | exact m4 | exact m5 | exact mapp m0 | exact mapp m1 | exact mapp m2 | exact mapp m3) (by first | exact tc_34 | exact tc_35 | exact tc_36 | exact tc_0 | exact tc_1 | rfl)) hs106 ?_
      refine TW.p rfl rfl rfl rfl (PV_move rfl rfl) hs106 ?_
      refine TW.p rfl rfl rfl rfl (PV_indexAddr rfl Tryz.underlying61 sz132 rfl rfl rfl (by omega)) hs106 ?_
      refine TW.p rfl rfl rfl rfl (by first | exact PV_fieldAddr0 rfl rfl fa132_0 | exact PV_fieldAddr rfl rfl fa132_0) hs106 ?_
      refine TW.s rfl rfl rfl rfl (PV_loadMemA (r := bcells (keyH sd)) (j := 0) rfl ag24 sz24 rfl (fun _ h => h) (hmm _ _) (by simp [length_bcells, h32]) (mark_h h32)) hs106 ?_
      refine TW.p rfl rfl rfl rfl (by first | exact PV_fieldAddr0 rfl rfl fa39_0 | exact PV_fieldAddr rfl rfl fa39_0) hs106 ?_
      refine TW.s rfl rfl rfl rfl (PV_loadM1 rfl ag37 rfl (by first | exact m0 | exact m1 | exact m2 | exact m3 | exact m4 | exact m5 | exact mapp m0 | exact mapp m1 | exact mapp m2 | exact mapp m3) (by first | exact tc_34 | exact tc_35 | exact tc_36 | exact tc_0 | exact tc_1 | rfl)) hs106 ?_
      refine TW.q rfl rfl rfl rfl (T := fun _ => True) (PV_move rfl rfl) trivial (fun _ => hs106) ?_
      refine TW.q rfl rfl rfl rfl (T := fun _ => True) (PV_indexAddr rfl Tryz.underlying37 sz24 rfl rfl rfl (by omega)) trivial (fun _ => hs106) ?_
      refine TW.q rfl rfl rfl rfl (PV_loadMemA (r := bcells (keyH sd)) (j := 0 * 32) rfl ag24 sz24 rfl (fun _ h => h) (hkm _ _) (by rw [length_bcells, length_keyH]; decide) (part_whole (by rw [length_bcells, length_keyH]))) hs106 (fun _ => hs106) ?_
      refine TW.q rfl rfl rfl rfl (T := fun _ => True) (PV_eqH rfl h32 h32 rfl rfl) trivial (fun _ => hs106) ?_
      refine TW.q rfl rfl rfl rfl (T := fun _ => True) (PV_move rfl rfl) trivial (fun _ => hs106) ?_
      refine TW.split 63 rfl (fun g3 => ?_) (fun g3 => by simp at g3)
      refine TW.gp rfl rfl rfl rfl rfl g3 rfl rfl rfl (by first | exact PV_fieldAddr0 rfl rfl fa39_0 | exact PV_fieldAddr rfl rfl fa39_0) hs106 ?_
      refine TW.gs rfl rfl rfl rfl rfl g3 rfl rfl rfl (PV_loadM1 rfl ag37 rfl (by first | exact m0 | exact m1 | exact m2 | exact m3 | exact m4 | exact m5 | exact mapp m0 | exact mapp m1 | exact mapp m2 | exact mapp m3) (by first | exact tc_34 | exact tc_35 | exact tc_36 | exact tc_0 | exact tc_1 | rfl)) hs106 ?_
      refine TW.gp rfl rfl rfl rfl rfl g3 rfl rfl rfl (PV_move rfl rfl) hs106 ?_
      refine TW.gp rfl rfl rfl rfl rfl g3 rfl rfl rfl (PV_indexAddr rfl Tryz.underlying37 sz24 rfl rfl rfl (by omega)) hs106 ?_
      refine TW.gs rfl rfl rfl rfl rfl g3 rfl rfl rfl (PV_loadMemA (r := bcells (keyH sd)) (j := 0 * 32) rfl ag24 sz24 rfl (fun _ h => h) (hkm _ _) (by rw [length_bcells, length_keyH]; decide) (part_whole (by rw [length_bcells, length_keyH]))) hs106 ?_
      refine TW.gp rfl rfl rfl rfl rfl g3 rfl rfl rfl (by first | exact PV_fieldAddr0 rfl rfl fa63_0 | exact PV_fieldAddr rfl rfl fa63_0) hs106 ?_
      refine TW.gs rfl rfl rfl rfl rfl g3 rfl rfl rfl (PV_loadM1 rfl ag60 rfl (by first | exact m0 | exact m1 | exact m2 | exact m3 | exact m4 | exact m5 | exact mapp m0 | exact mapp m1 | exact mapp m2 | exact mapp m3) (by first | exact tc_34 | exact tc_35 | exact tc_36 | exact tc_0 | exact tc_1 | rfl)) hs106 ?_
      refine TW.gp rfl rfl rfl rfl rfl g3 rfl rfl rfl (by first | exact PV_fieldAddr0 rfl rfl fa63_1 | exact PV_fieldAddr rfl rfl fa63_1) hs106 ?_
      refine TW.gs rfl rfl rfl rfl rfl g3 rfl rfl rfl (PV_loadM1 rfl ag61 rfl (by first | exact m0 | exact m1 | exact m2 | exact m3 | exact m4 | exact m5 | exact mapp m0 | exact mapp m1 | exact mapp m2 | exact mapp m3) (by first | exact tc_34 | exact tc_35 | exact tc_36 | exact tc_0 | exact tc_1 | rfl)) hs106 ?_
      refine TW.gq rfl rfl rfl rfl rfl g3 rfl rfl rfl (T := fun _ => True) (PV_move rfl rfl) trivial (fun _ => hs106) ?_
      refine TW.gq rfl rfl rfl rfl rfl g3 rfl rfl rfl (T := fun _ => True) (PV_indexAddr rfl Tryz.underlying61 sz132 rfl rfl rfl (by omega)) trivial (fun _ => hs106) ?_
      refine TW.gq rfl rfl rfl rfl rfl g3 rfl rfl rfl (T := fun _ => True) (by first | exact PV_fieldAddr0 rfl rfl fa132_1 | exact PV_fieldAddr rfl rfl fa132_1) trivial (fun _ => hs106) ?_
      refine TW.gq rfl rfl rfl rfl rfl g3 rfl rfl rfl (PV_loadMemA (r := [.int .i64 (q : Int), cv, pv]) (j := 32) rfl ag129 sz129 rfl (fun _ h => h) (hmm _ _) (by simp [length_bcells, h32]) (mark_s h32)) hs106 (fun _ => hs106) ?_
      refine TW.ge rfl rfl rfl rfl rfl g3 rfl rfl rfl (K3 rfl fn148 rfl rfl rfl (C148s hq hl hp hc hpa hs106)) ?_
      rintro r107 w107 ⟨rfl, hs107⟩
      refine ⟨hs107, ?_⟩
      refine TW.q rfl rfl rfl rfl (T := fun _ => True) (PV_pickT rfl rfl g3 rfl) trivial (fun _ => hs107) ?_
      refine TW.done (nxt ?_)
      repeat first | apply W.seq | apply W.region
      refine W.cond rfl (fun h4 => ?_) (fun h4 => ?_)
      rotate_left
      · cases h4
      repeat first | apply W.seq | apply W.region
      refine RL.p rfl rfl rfl (PV_move rfl rfl) ?_
      refine RL.p rfl rfl rfl (by first | exact PV_fieldAddr0 rfl rfl fa39_0 | exact PV_fieldAddr rfl rfl fa39_0) ?_
      refine RL.s rfl rfl rfl (PV_loadM1 rfl ag37 rfl (by first | exact m0 | exact m1 | exact m2 | exact m3 | exact m4 | exact m5 | exact mapp m0 | exact mapp m1 | exact mapp m2 | exact mapp m3) (by first | exact tc_34 | exact tc_35 | exact tc_36 | exact tc_0 | exact tc_1 | rfl)) hs107 ?_
      refine RL.p rfl rfl rfl (PV_move rfl rfl) ?_
      refine RL.p rfl rfl rfl (PV_indexAddr rfl Tryz.underlying37 sz24 rfl rfl rfl (by omega)) ?_
      refine RL.s rfl rfl rfl (PV_loadMemA (r := bcells (keyH sd)) (j := 0 * 32) rfl ag24 sz24 rfl (fun _ h => h) (hkm _ _) (by rw [length_bcells, length_keyH]; decide) (part_whole (by rw [length_bcells, length_keyH]))) hs107 ?_
      refine RL.e rfl rfl rfl (EF_bs1a rfl el37 rfl (by rw [length_bcells]; exact h32) (by decide) hs107) ?_
      rintro r108 w108 ⟨b85, rfl, hs108⟩
      refine RL.e rfl rfl rfl (EF_append (l := 0) (m := 1) (olds := []) (news := bcells (keyH sd)) rfl el37 rfl rfl ho5 rfl (rdW (m := 1) hs108 m0 (by rw [length_bcells]; exact h32) (Nat.le_refl _)) (one1_bcells _) (by omega) (by decide) hs108.mid) ?_
      rintro r109 w109 ⟨L109, ho109, hs109⟩
      refine RL.p rfl rfl rfl (PV_assign rfl rfl) ?_
      refine RL.done (nxt ?_)
      repeat first | apply W.seq | apply W.region
      refine RL.p rfl rfl rfl (PV_assign rfl rfl) ?_
      refine RL.done (nxt ?_)
      repeat first | apply W.seq | apply W.region
      refine RL.p rfl rfl rfl (PV_move rfl rfl) ?_
      refine RL.p rfl rfl rfl (PV_add rfl rfl rfl (by omega)) ?_
      refine RL.p rfl rfl rfl (PV_assign rfl rfl) ?_
      refine RL.done (round_end (1, r109) ?_ ?_ ?_)
      · repeat first | exact Sub.nil | refine Sub.cons rfl ?_
      · exact ⟨by dsimp only; omega, L109, ho109, hs109.del (Del.app x0)⟩
      · first | omega | (dsimp only; omega)
    repeat first | apply W.seq | apply W.region
    refine W.exit (nxt ?_)
    repeat first | apply W.seq | apply W.region
    refine RL.p rfl rfl rfl (PV_move rfl rfl) ?_
    refine RL.p rfl rfl rfl (PV_add rfl rfl rfl (by omega)) ?_
    refine RL.p rfl rfl rfl (PV_assign rfl rfl) ?_
    refine RL.done (round_end (1, y) ?_ ?_ ?_)
    · repeat first | exact Sub.nil | refine Sub.cons rfl ?_
    · exact ⟨by dsimp only; omega, L5, (by obtain rfl : j = 1 := hF h3; exact ho5), hs105⟩
    · first | omega | (dsimp only; omega)
  repeat first | apply W.seq | apply W.region
  refine W.exit (nxt ?_)
  repeat first | apply W.seq | apply W.region
  refine RL.p rfl rfl rfl (PV_move rfl rfl) ?_
  refine RL.p rfl rfl rfl (PV_assign rfl rfl) ?_
  refine RL.done (nxt ?_)
  repeat first | apply W.seq | apply W.region
  obtain rfl : i = 1 := by have := of_decide_eq_false h1; dsimp only at this; omega
  obtain ⟨A9, c9, rfl, hc9⟩ := OwnS.shape (m := 1) ho (by rw [hI, if_neg (by decide), length_bcells, h32]) (by decide)
  exact W.ret (ret_tmp rfl rfl ⟨_, rfl, A9, c9, rfl, hs3.drop.tail.tail⟩)

theorem C81 {sd body : List UInt8} {p mv kv : Value} {q : Nat} (hq : q < 16) (hl : body.length ≤ 2 ^ 40) (he : EnvI I p mv body (keyH sd) q (chainsH sd q body) (pathH 4 (leavesH sd) q)) (hv : SlI I 32 kv 1 (bcells (keyH sd))) (hs : Sat G M I w) : Calls Tryz.prog 81 #[aggL [p, mv], aggL [kv, .int .i64 1]] w (Ret fun r w' => r = .bool true ∧ Sat G M I w') := by
  obtain ⟨kA, kc, rfl, hkc⟩ := hv.shape
  refine enter2 Tryz.func81 rfl Tryz.ntmps81 rfl ?_
  repeat first | apply W.seq | apply W.region
  refine RL.e rfl rfl rfl (EF_boxA rfl rfl hs) ?_
  rintro r1 w1 ⟨b2, rfl, hs1⟩
  refine RL.e rfl rfl rfl (EF_boxA rfl rfl hs1) ?_
  rintro r2 w2 ⟨b3, rfl, hs2⟩
  refine RL.p rfl rfl rfl (PV_assign rfl rfl) ?_
  refine RL.done (nxt ?_)
  repeat first | apply W.seq | apply W.region
  refine W.drawsH hs2 [(0, false), (1, false), (2, false), (3, true), (4, true), (7, true), (8, true), (5, false), (6, false), (9, false), (10, false), (11, false)] mixed (by kernel_rfl) (by kernel_rfl) ?_
  have hs3 := hs2.drew
  refine TW.q rfl rfl rfl rfl (PV_loadMA (r := [.slice kA 1 kc, .int .i64 1]) rfl ag39 sz39 rfl m0 (by simp) rfl) hs3 (fun _ => hs3) ?_
  refine TW.e rfl rfl rfl rfl (K1 rfl fn125 rfl (C125 (length_keyH sd) hv.toM hs3)) ?_
  rintro r4 w4 ⟨rfl, hs4⟩
  refine ⟨hs4, ?_⟩
  refine TW.q rfl rfl rfl rfl (T := fun _ => True) (PV_move rfl rfl) trivial (fun _ => hs4) ?_
  refine TW.split 7 rfl (fun g1 => ?_) (fun g1 => by cases g1)
  refine TW.gs rfl rfl rfl rfl rfl g1 rfl rfl rfl (PV_loadMA (r := [p, mv]) rfl ag63 sz63 rfl m1 (by simp) rfl) hs4 ?_
  refine TW.gs rfl rfl rfl rfl rfl g1 rfl rfl rfl (PV_loadMA (r := [.slice kA 1 kc, .int .i64 1]) rfl ag39 sz39 rfl m0 (by simp) rfl) hs4 ?_
  refine TW.gp rfl rfl rfl rfl rfl g1 rfl rfl rfl (by first | exact PV_fieldAddr0 rfl rfl fa39_1 | exact PV_fieldAddr rfl rfl fa39_1) hs4 ?_
  refine TW.gs rfl rfl rfl rfl rfl g1 rfl rfl rfl (PV_loadM1 rfl ag3 rfl (by first | exact m0 | exact m1 | exact m2 | exact m3 | exact m4 | exact m5 | exact mapp m0 | exact mapp m1 | exact mapp m2 | exact mapp m3) (by first | exact tc_34 | exact tc_35 | exact tc_36 | exact tc_0 | exact tc_1 | rfl)) hs4 ?_
  refine TW.ge rfl rfl rfl rfl rfl g1 rfl rfl rfl (K2 rfl fn126 rfl rfl (C126 hq hl he hv hs4)) ?_
  rintro r5 w5 ⟨A5, c5, rfl, hs5⟩
  refine ⟨hs5, ?_⟩
  refine TW.gq rfl rfl rfl rfl rfl g1 rfl rfl rfl (T := fun _ => True) (PV_len rfl Tryz.underlying37 rfl) trivial (fun _ => hs5) ?_
  refine TW.gq rfl rfl rfl rfl rfl g1 rfl rfl rfl (T := fun _ => True) (PV_geq rfl rfl rfl) trivial (fun _ => hs5) ?_
  refine TW.q rfl rfl rfl rfl (T := fun _ => True) (PV_pickT rfl rfl g1 rfl) trivial (fun _ => hs5) ?_
  refine TW.qn rfl rfl rfl rfl (T := fun _ => True) (PV_assign rfl rfl) trivial (by kernel_rfl) ?_
  refine TW.done (nxt ?_)
  repeat first | apply W.seq | apply W.region
  exact W.ret (ret_tmp rfl rfl ⟨_, rfl, rfl, hs5.tail.tail⟩)

theorem C79 {sd : List UInt8} {p mv : Value} {q : Nat} {ver0 e0 ver1 e1 : Int} {ks0 : Nat → Value} {hh : Nat → List UInt8} (hq : q < 16) (hl : (nums [1] ++ rootE ver1 e1 hh).length ≤ 2 ^ 40) (he : EnvI I p mv (nums [1] ++ rootE ver1 e1 hh) (keyH sd) q (chainsH sd q (nums [1] ++ rootE ver1 e1 hh)) (pathH 4 (leavesH sd) q)) (hver : isVersionB ver1 = true) (he1 : isNumB e1 = true) (h32 : ∀ j, j < 4 → (hh j).length = 32) (hk0 : SlI I 32 (ks0 0) 1 (bcells (keyH sd))) (h0 : hh 0 = keyH sd) (hv10 : ver1 - 1 = ver0) (hs : Sat G M I w) : Calls Tryz.prog 79 #[aggL (rcells ver0 e0 ks0), aggL [p, mv]] w (Ret fun r w' => ∃ J ks, Le I J ∧ r = .tuple #[aggL (rcells ver1 e1 ks), .int .i64 0] ∧ (∀ j, j < 4 → SlI J 32 (ks j) 1 (bcells (hh j))) ∧ Sat G M J w') := by
  have hp := he.1
  have hvv := version_in hver
  refine enter2 Tryz.func79 rfl Tryz.ntmps79 rfl ?_
  repeat first | apply W.seq | apply W.region
  refine RL.e rfl rfl rfl (EF_boxA rfl rfl hs) ?_
  rintro r1 w1 ⟨b2, rfl, hs1⟩
  refine RL.e rfl rfl rfl (EF_boxA rfl rfl hs1) ?_
  rintro r2 w2 ⟨b3, rfl, hs2⟩
  refine RL.e rfl rfl rfl (EF_allocA rfl zr42 hs2) ?_
  rintro r3 w3 ⟨b4, rfl, hs3⟩
  refine RL.p rfl rfl rfl (PV_assign rfl rfl) ?_
  refine RL.done (nxt ?_)
  repeat first | apply W.seq | apply W.region
  refine RL.p rfl rfl rfl (by first | exact PV_fieldAddr0 rfl rfl fa63_0 | exact PV_fieldAddr rfl rfl fa63_0) ?_
  refine RL.s rfl rfl rfl (PV_loadM1 rfl ag60 rfl (by first | exact m0 | exact m1 | exact m2 | exact m3 | exact m4 | exact m5 | exact mapp m0 | exact mapp m1 | exact mapp m2 | exact mapp m3) (by first | exact tc_34 | exact tc_35 | exact tc_36 | exact tc_0 | exact tc_1 | rfl)) hs3 ?_
  refine RL.e rfl rfl rfl (K1 rfl fn78 rfl (C78 hver he1 h32 hp hs3)) ?_
  rintro r4 w4 ⟨J4, ks4, hj4, rfl, hks4, hs4⟩
  refine RL.p rfl rfl rfl (PV_move rfl rfl) ?_
  refine RL.p rfl rfl rfl (PV_extract rfl rfl rfl) ?_
  refine RL.p rfl rfl rfl (PV_extract rfl rfl rfl) ?_
  refine RL.e rfl rfl rfl (EF_allocA rfl zr42 hs4) ?_
  rintro r5 w5 ⟨b6, rfl, hs5⟩
  refine RL.e0 rfl rfl (EF_storeA (cs := zl42) rfl rfl rfl sz42 rfl (one1_rprog fun j hj => (hks4 j hj).cell) hs5 (by first | exact u0 | exact u1 | exact u2 | exact u3 | exact u4 | exact u5 | exact u0.app | exact u1.app | exact u2.app | exact u3.app)) ?_
  rintro r6 w6 hs6
  refine RL.p rfl rfl rfl (PV_assign rfl rfl) ?_
  refine RL.done (nxt ?_)
  repeat first | apply W.seq | apply W.region
  refine W.block ?_
  repeat first | apply W.seq | apply W.region
  refine RL.p rfl rfl rfl (PV_move rfl rfl) ?_
  refine RL.p rfl rfl rfl (PV_nei rfl rfl rfl) ?_
  refine RL.p rfl rfl rfl (PV_assign rfl rfl) ?_
  refine RL.done (nxt ?_)
  repeat first | apply W.seq | apply W.region
  refine W.cond rfl (fun h1 => ?_) (fun h1 => ?_)
  · exact absurd (of_decide_eq_true h1) (by decide)
  repeat first | apply W.seq | apply W.region
  refine RL.p rfl rfl rfl (by first | exact PV_fieldAddr0 rfl rfl fa42_0 | exact PV_fieldAddr rfl rfl fa42_0) ?_
  refine RL.s rfl rfl rfl (PV_loadM1 rfl ag3 rfl (by first | exact m0 | exact m1 | exact m2 | exact m3 | exact m4 | exact m5 | exact mapp m0 | exact mapp m1 | exact mapp m2 | exact mapp m3) (by first | exact tc_34 | exact tc_35 | exact tc_36 | exact tc_0 | exact tc_1 | rfl)) hs6 ?_
  refine RL.p rfl rfl rfl (PV_sub rfl rfl rfl (by omega)) ?_
  refine RL.p rfl rfl rfl (by first | exact PV_fieldAddr0 rfl rfl fa42_0 | exact PV_fieldAddr rfl rfl fa42_0) ?_
  refine RL.s rfl rfl rfl (PV_loadM1 rfl ag3 rfl (by first | exact m0 | exact m1 | exact m2 | exact m3 | exact m4 | exact m5 | exact mapp m0 | exact mapp m1 | exact mapp m2 | exact mapp m3) (by first | exact tc_34 | exact tc_35 | exact tc_36 | exact tc_0 | exact tc_1 | rfl)) hs6 ?_
  refine RL.p rfl rfl rfl (PV_nei rfl rfl rfl) ?_
  refine RL.p rfl rfl rfl (PV_assign rfl rfl) ?_
  refine RL.done (nxt ?_)
  repeat first | apply W.seq | apply W.region
  refine W.cond rfl (fun h2 => ?_) (fun h2 => ?_)
  · exact absurd hv10 (of_decide_eq_true h2)
  repeat first | apply W.seq | apply W.region
  refine RL.s rfl rfl rfl (PV_loadMA (r := [p, mv]) rfl ag63 sz63 rfl m2 (by simp) rfl) hs6 ?_
  refine RL.p rfl rfl rfl (by first | exact PV_fieldAddr0 rfl rfl fa42_2 | exact PV_fieldAddr rfl rfl fa42_2) ?_
  refine RL.p rfl rfl rfl (PV_indexArr (i := 0) rfl Tryz.underlying40 sz39 rfl rfl rfl (by decide)) ?_
  refine RL.s rfl rfl rfl (PV_loadMA (r := [ks0 0, .int .i64 1]) rfl ag39 sz39 rfl m3 (by show 4 ≤ 10; omega) (role_part (i := 0) (by decide))) hs6 ?_
  refine RL.e rfl rfl rfl (K2 rfl fn81 rfl rfl (C81 hq hl (he.le hj4) (hk0.le hj4) hs6)) ?_
  rintro r7 w7 ⟨rfl, hs7⟩
  refine RL.p rfl rfl rfl (PV_not rfl rfl) ?_
  refine RL.p rfl rfl rfl (PV_move rfl rfl) ?_
  refine RL.split 33 rfl (fun g1 => by cases g1) (fun g1 => ?_)
  refine RL.gs rfl rfl rfl rfl g1 rfl rfl rfl (PV_loadMA (r := [p, mv]) rfl ag63 sz63 rfl m2 (by simp) rfl) hs7 ?_
  refine RL.gp rfl rfl rfl rfl g1 rfl rfl rfl (by first | exact PV_fieldAddr0 rfl rfl fa42_2 | exact PV_fieldAddr rfl rfl fa42_2) ?_
  refine RL.gp rfl rfl rfl rfl g1 rfl rfl rfl (PV_indexArr (i := 0) rfl Tryz.underlying40 sz39 rfl rfl rfl (by decide)) ?_
  refine RL.gs rfl rfl rfl rfl g1 rfl rfl rfl (PV_loadMA (r := [ks4 0, .int .i64 1]) rfl ag39 sz39 rfl m0 (by show 4 ≤ 10; omega) (role_part (i := 0) (by decide))) hs7 ?_
  refine RL.ge rfl rfl rfl rfl g1 rfl rfl rfl (K2 rfl fn81 rfl rfl (C81 hq hl (he.le hj4) (by rw [← h0]; exact hks4 0 (by decide)) hs7)) ?_
  rintro r8 w8 ⟨rfl, hs8⟩
  refine RL.gp rfl rfl rfl rfl g1 rfl rfl rfl (PV_not rfl rfl) ?_
  refine RL.p rfl rfl rfl (PV_pickF rfl rfl g1 rfl) ?_
  refine RL.p rfl rfl rfl (PV_assign rfl rfl) ?_
  refine RL.done (nxt ?_)
  repeat first | apply W.seq | apply W.region
  refine W.cond rfl (fun h3 => ?_) (fun h3 => ?_)
  · cases h3
  refine W.skip (nxt ?_)
  repeat first | apply W.seq | apply W.region
  refine RL.s rfl rfl rfl (PV_loadMA (r := rcells ver1 e1 ks4) rfl ag42 sz42 rfl m0 (by show 10 ≤ 10; omega) rfl) hs8 ?_
  refine RL.e0 rfl rfl (EF_storeA (cs := zl42) rfl rfl rfl sz42 rfl (one1_rprog fun j hj => (hks4 j hj).cell) hs8 (by first | exact u0 | exact u1 | exact u2 | exact u3 | exact u4 | exact u5 | exact u0.app | exact u1.app | exact u2.app | exact u3.app)) ?_
  rintro r9 w9 hs9
  refine RL.p rfl rfl rfl (PV_assign rfl rfl) ?_
  refine RL.done (nxt ?_)
  repeat first | apply W.seq | apply W.region
  exact W.ret (ret_cell2 rfl rfl rfl (ldA ag42 sz42 hs9 m1 rfl) ⟨_, rfl, J4, ks4, hj4, rfl, hks4, hs9.tail.tail.tail.tail⟩) --hs9.tail.tail.tail.tail⟩)

end Go.Proofs.YtecbpmgfikgoaaaGreatDoor
