/- Walks of functions 15: what each call gives back, and that it writes nothing of anybody else's. Conditions: as each theorem says. -/
import Derived.Test.YtecbpmgfikgoaaaGreatDoorV3
set_option linter.unusedVariables false
set_option linter.unusedSimpArgs false
set_option maxRecDepth 8000
set_option maxHeartbeats 4000000
namespace Go.Proofs.YtecbpmgfikgoaaaGreatDoor
open Go Go.RowKit
variable {G w : World} {M : List Chunk} {I : Imm}

def bodyR (v e : Int) (hh : Nat → List UInt8) : List UInt8 := optB (isVersionB v && isNumB e) (nums [1] ++ rootE v e hh)
/-- What a Repo's variable tells while its key is put in: its seed and its generation stay. -/
def SR (s : List UInt8) (g : Nat) (L X : List Chunk) (rb : Nat) (G w : World) : Prop := ∃ x : List Value × Imm, (part x.1 0 32 = bcells s ∧ x.1[34]? = some (.int .i64 (g : Int)) ∧ x.1.length = 64) ∧ Sat G (L ++ (rb, x.1, 78) :: X) x.2 w
theorem SR.mk {s : List UInt8} {g rb : Nat} {L X : List Chunk} {rc : List Value} {J : Imm} (h1 : part rc 0 32 = bcells s) (h2 : rc[34]? = some (.int .i64 (g : Int))) (h3 : rc.length = 64) (h : Sat G (L ++ (rb, rc, 78) :: X) J w) : SR s g L X rb G w := ⟨(rc, J), ⟨h1, h2, h3⟩, h⟩
theorem part_seed {s : List UInt8} {t : List Value} (h : s.length = 32) : part (bcells s ++ t) 0 32 = bcells s := by
  rw [part, List.drop_zero, List.take_append_of_le_length (by rw [length_bcells, h]; exact Nat.le_refl _), List.take_of_length_le (by rw [length_bcells, h]; exact Nat.le_refl _)]
section
variable {n : Nat} {E : List (Nat × Value)} {o : Oper}
theorem PV_SRg {s : List UInt8} {g rb : Nat} {L X : List Chunk} {x : Operand} (ho : o.op = .load 3 x) (hx : ev E x = some (ptr rb 34)) : PV Tryz.prog n o E (SR s g L X rb G) (.int .i64 (g : Int)) := by
  rintro a ha w ⟨⟨rc, J⟩, ⟨h1, h2, h3⟩, hs⟩
  exact PV_loadM1 (M := L ++ (rb, rc, 78) :: X) ho ag3 hx (mapp m0) h2 a ha w hs
theorem PV_SRs {s : List UInt8} {g rb : Nat} {L X : List Chunk} {x : Operand} (ho : o.op = .load 24 x) (hx : ev E x = some (ptr rb 0)) : PV Tryz.prog n o E (SR s g L X rb G) (aggL (bcells s)) := by
  rintro a ha w ⟨⟨rc, J⟩, ⟨h1, h2, h3⟩, hs⟩
  refine PV_loadMA (M := L ++ (rb, rc, 78) :: X) ho ag24 sz24 hx (mapp m0) ?_ h1 a ha w hs
  change rc.length = 64 at h3
  omega
end

theorem C15 {rb k0 k1 y0 g q : Nat} {s : List UInt8} {v1 sg : Int} {f la : Nat → Value} {l led lv0 : Value} {b : Nat → Value} {ecs : List Value} {Lr R : List Chunk}
    (h32 : s.length = 32) (hv0 : SlI I 32 lv0 16 (bcells (leavesH (seedH s 0)))) (hu : y0 < 16) (hg : g < 200) (hv : 0 ≤ v1 ∧ v1 ≤ 1000) (hq : q ≤ 1000) (hec : ecs.length = q * 2) (hor : OwnS 63 2 (b 0) ecs Lr)
    (hs : Sat G (Lr ++ (rb, bcells s ++ rtail (ptr k0 0) (ptr k1 0) (g : Int) 1 f v1 la l sg b led, 78) :: (k0, kcells (seedH s 0) lv0 y0, 112) :: R) I w) :
    Calls Tryz.prog 15 #[ptr rb 0] w (Ret fun r w' => ∃ J kb lvn ks u mv x Lr', Le I J ∧ r = .int .i64 0 ∧ SlI J 32 lvn 16 (bcells (leavesH (seedH s (g + 1)))) ∧ (∀ j, j < 4 → SlI J 32 (ks j) 1 (bcells (roleH (seedH s 0) (seedH s (g + 1)) j))) ∧
      EnvI J u mv (bodyR (v1 + 1) 1073741824 (roleH (seedH s 0) (seedH s (g + 1)))) (keyH (seedH s 0)) y0 (chainsH (seedH s 0) y0 (bodyR (v1 + 1) 1073741824 (roleH (seedH s 0) (seedH s (g + 1))))) (pathH 4 (leavesH (seedH s 0)) y0) ∧ OwnS 63 2 x (ecs ++ [u, mv]) Lr' ∧
      Sat G (Lr' ++ (kb, kcells (seedH s (g + 1)) lvn 0, 112) :: (rb, bcells s ++ rtail (ptr k0 0) (ptr kb 0) ((g + 1 : Nat) : Int) 1 f (v1 + 1) ks l sg (fun i => if i = 0 then x else b i) led, 78) :: (k0, kcells (seedH s 0) lv0 (y0 + 1), 112) :: R) J w') := by
  refine enter1 Tryz.func15 rfl Tryz.ntmps15 rfl ?_
  repeat (first | refine W.seq ?_ | refine W.region ?_)
  refine RL.p rfl rfl rfl (PV_assign rfl rfl) ?_
  refine RL.done (nxt ?_)
  repeat (first | refine W.seq ?_ | refine W.region ?_)
  refine W.block ?_
  repeat (first | refine W.seq ?_ | refine W.region ?_)
  refine RL.p rfl rfl rfl (PV_move rfl rfl) ?_
  refine RL.p rfl rfl rfl (PV_eqnil rfl Tryz.underlying27 rfl rfl) ?_
  refine RL.p rfl rfl rfl (PV_assign rfl rfl) ?_
  refine RL.done (nxt ?_)
  repeat (first | refine W.seq ?_ | refine W.region ?_)
  refine W.cond rfl (fun h1 => ?_) (fun h1 => ?_)
  · cases h1
  repeat (first | refine W.seq ?_ | refine W.region ?_)
  refine RL.p rfl rfl rfl (PV_move rfl rfl) ?_
  refine RL.p rfl rfl rfl (PV_nilCheckP rfl rfl) ?_
  refine RL.p rfl rfl rfl (by first | exact PV_fieldAddr0 rfl rfl fa78_1 | exact PV_fieldAddr rfl rfl fa78_1) ?_
  refine RL.p rfl rfl rfl (PV_indexArr (i := 0) rfl Tryz.underlying76 sz75 rfl rfl rfl (by decide)) ?_
  refine RL.s rfl rfl rfl (PV_loadM1 rfl ag75 rfl (mapp m0) (ap_get (i := 0) h32 rfl)) hs ?_
  refine RL.e rfl rfl rfl (K1 rfl fn32 rfl (C32 (length_sha _) (mapp m1) hs)) ?_
  rintro r1 w1 ⟨rfl, hs1⟩
  refine RL.p rfl rfl rfl (PV_geq rfl rfl rfl) ?_
  refine RL.p rfl rfl rfl (PV_assign rfl rfl) ?_
  refine RL.done (nxt ?_)
  repeat (first | refine W.seq ?_ | refine W.region ?_)
  refine W.cond rfl (fun h2 => ?_) (fun h2 => ?_)
  · exact absurd (of_decide_eq_true h2) (by omega)
  repeat (first | refine W.seq ?_ | refine W.region ?_)
  refine RL.p rfl rfl rfl (PV_move rfl rfl) ?_
  refine RL.p rfl rfl rfl (PV_nilCheckP rfl rfl) ?_
  refine RL.p rfl rfl rfl (by first | exact PV_fieldAddr0 rfl rfl fa78_2 | exact PV_fieldAddr rfl rfl fa78_2) ?_
  refine RL.s rfl rfl rfl (PV_loadM1 rfl ag3 rfl (mapp m0) (ap_get (i := 2) h32 rfl)) hs1 ?_
  refine RL.p rfl rfl rfl (PV_geq rfl rfl rfl) ?_
  refine RL.p rfl rfl rfl (PV_assign rfl rfl) ?_
  refine RL.done (nxt ?_)
  repeat (first | refine W.seq ?_ | refine W.region ?_)
  refine W.cond rfl (fun h3 => ?_) (fun h3 => ?_)
  · exact absurd (of_decide_eq_true h3) (by omega)
  refine W.skip (nxt ?_)
  repeat (first | refine W.seq ?_ | refine W.region ?_)
  refine RL.p rfl rfl rfl (PV_move rfl rfl) ?_
  refine RL.p rfl rfl rfl (PV_nilCheckP rfl rfl) ?_
  refine RL.p rfl rfl rfl (by first | exact PV_fieldAddr0 rfl rfl fa78_2 | exact PV_fieldAddr rfl rfl fa78_2) ?_
  refine RL.s rfl rfl rfl (PV_loadM1 rfl ag3 rfl (mapp m0) (ap_get (i := 2) h32 rfl)) hs1 ?_
  refine RL.p rfl rfl rfl (PV_add rfl rfl rfl (by omega)) ?_
  refine RL.p rfl rfl rfl (PV_nilCheckP rfl rfl) ?_
  refine RL.p rfl rfl rfl (by first | exact PV_fieldAddr0 rfl rfl fa78_2 | exact PV_fieldAddr rfl rfl fa78_2) ?_
  refine RL.e0 rfl rfl (EF_storeC (cs := bcells s ++ rtail (ptr k0 0) (ptr k1 0) (g : Int) 1 f v1 la l sg b led) rfl rfl rfl sz3 rfl (by rw [ap_len h32 rfl]; decide) (ap_set (i := 2) (t' := rtail (ptr k0 0) (ptr k1 0) ((g + 1 : Nat) : Int) 1 f v1 la l sg b led) h32 rfl) hs1 u0.app) ?_
  rintro r2 w2 hs2
  refine RL.done (nxt ?_)
  repeat (first | refine W.seq ?_ | refine W.region ?_)
  refine W.drawsH (SR.mk (g := g + 1) (part_seed h32) (ap_get (i := 2) h32 rfl) (ap_len h32 rfl) (hs2)) [(0, true), (1, true), (2, true), (3, true), (4, true), (5, true), (6, true), (7, true), (8, true), (11, true), (12, true), (9, false), (10, false), (13, false), (14, false)] mixed (by kernel_rfl) (by kernel_rfl) ?_
  have hs3 := hs2.drew
  refine TW.p rfl rfl rfl rfl (PV_move rfl rfl) ((SR.mk (g := g + 1) (part_seed h32) (ap_get (i := 2) h32 rfl) (ap_len h32 rfl) (hs3))) ?_
  refine TW.p rfl rfl rfl rfl (PV_move rfl rfl) ((SR.mk (g := g + 1) (part_seed h32) (ap_get (i := 2) h32 rfl) (ap_len h32 rfl) (hs3))) ?_
  refine TW.p rfl rfl rfl rfl (PV_nilCheckP rfl rfl) ((SR.mk (g := g + 1) (part_seed h32) (ap_get (i := 2) h32 rfl) (ap_len h32 rfl) (hs3))) ?_
  refine TW.p rfl rfl rfl rfl (by first | exact PV_fieldAddr0 rfl rfl fa78_0 | exact PV_fieldAddr rfl rfl fa78_0) ((SR.mk (g := g + 1) (part_seed h32) (ap_get (i := 2) h32 rfl) (ap_len h32 rfl) (hs3))) ?_
  refine TW.s rfl rfl rfl rfl (PV_SRs rfl rfl) ((SR.mk (g := g + 1) (part_seed h32) (ap_get (i := 2) h32 rfl) (ap_len h32 rfl) (hs3))) ?_
  refine TW.p rfl rfl rfl rfl (PV_move rfl rfl) ((SR.mk (g := g + 1) (part_seed h32) (ap_get (i := 2) h32 rfl) (ap_len h32 rfl) (hs3))) ?_
  refine TW.p rfl rfl rfl rfl (PV_nilCheckP rfl rfl) ((SR.mk (g := g + 1) (part_seed h32) (ap_get (i := 2) h32 rfl) (ap_len h32 rfl) (hs3))) ?_
  refine TW.p rfl rfl rfl rfl (by first | exact PV_fieldAddr0 rfl rfl fa78_2 | exact PV_fieldAddr rfl rfl fa78_2) ((SR.mk (g := g + 1) (part_seed h32) (ap_get (i := 2) h32 rfl) (ap_len h32 rfl) (hs3))) ?_
  refine TW.s rfl rfl rfl rfl (PV_SRg rfl rfl) ((SR.mk (g := g + 1) (part_seed h32) (ap_get (i := 2) h32 rfl) (ap_len h32 rfl) (hs3))) ?_
  refine TW.p rfl rfl rfl rfl (PV_nilCheckP rfl rfl) ((SR.mk (g := g + 1) (part_seed h32) (ap_get (i := 2) h32 rfl) (ap_len h32 rfl) (hs3))) ?_
  refine TW.p rfl rfl rfl rfl (by first | exact PV_fieldAddr0 rfl rfl fa78_1 | exact PV_fieldAddr rfl rfl fa78_1) ((SR.mk (g := g + 1) (part_seed h32) (ap_get (i := 2) h32 rfl) (ap_len h32 rfl) (hs3))) ?_
  refine TW.e rfl rfl rfl rfl (K2 rfl fn23 rfl rfl (C23 (g := g + 1) h32 hs3)) ?_
  rintro r4 w4 ⟨rfl, hs4⟩
  refine ⟨((SR.mk (g := g + 1) (part_seed h32) (ap_get (i := 2) h32 rfl) (ap_len h32 rfl) (hs4))), ?_⟩
  refine TW.e rfl rfl rfl rfl (K2 rfl fn22 rfl rfl (C22 (length_sha _) hs4)) ?_
  rintro r5 w5 ⟨J5, kb, lvn, hj5, rfl, hlvn, hs5⟩
  refine ⟨((SR.mk (g := g + 1) (part_seed h32) (ap_get (i := 2) h32 rfl) (ap_len h32 rfl) (hs5.tail))), ?_⟩
  refine TW.q rfl rfl rfl rfl (T := fun _ => True) (PV_indexArr (i := 1) rfl Tryz.underlying76 sz75 rfl rfl rfl (by decide)) trivial (fun _ => ((SR.mk (g := g + 1) (part_seed h32) (ap_get (i := 2) h32 rfl) (ap_len h32 rfl) (hs5.tail)))) ?_
  refine TW.e0 rfl rfl rfl (EF_storeC (cs := bcells s ++ rtail (ptr k0 0) (ptr k1 0) ((g + 1 : Nat) : Int) 1 f v1 la l sg b led) rfl rfl rfl sz75 rfl (by rw [ap_len h32 rfl]; decide) (ap_set (i := 1) (t' := rtail (ptr k0 0) (ptr kb 0) ((g + 1 : Nat) : Int) 1 f v1 la l sg b led) h32 rfl) hs5 u0.app.there) ?_
  rintro r6 w6 hs6
  refine ⟨((SR.mk (g := g + 1) (part_seed h32) (ap_get (i := 2) h32 rfl) (ap_len h32 rfl) (hs6.tail))), ?_⟩
  refine TW.done (nxt ?_)
  repeat (first | refine W.seq ?_ | refine W.region ?_)
  refine RL.p rfl rfl rfl (PV_move rfl rfl) ?_
  refine RL.p rfl rfl rfl (PV_move rfl rfl) ?_
  refine RL.p rfl rfl rfl (PV_move rfl rfl) ?_
  refine RL.p rfl rfl rfl (PV_nilCheckP rfl rfl) ?_
  refine RL.p rfl rfl rfl (by first | exact PV_fieldAddr0 rfl rfl fa78_4 | exact PV_fieldAddr rfl rfl fa78_4) ?_
  refine RL.p rfl rfl rfl (by first | exact PV_fieldAddr0 rfl rfl fa42_0 | exact PV_fieldAddr rfl rfl fa42_0) ?_
  refine RL.s rfl rfl rfl (PV_loadM1 rfl ag3 rfl (.tail _ (mapp m0)) (ap_get (i := 13) h32 rfl)) hs6 ?_
  refine RL.p rfl rfl rfl (PV_add rfl rfl rfl (by omega)) ?_
  refine RL.e rfl rfl rfl (K2 rfl fn24 rfl rfl (C24 (s0 := seedH s 0) (s1 := seedH s (g + 1)) (n0 := y0) (n1 := 0) (.tail _ (mapp m0)) (ap_get (i := 0) h32 rfl) (ap_get (i := 1) h32 rfl) ⟨lv0, length_sha _, .tail _ (mapp m1), hv0.le hj5⟩ ⟨lvn, length_sha _, m0, hlvn⟩ hs6)) ?_
  rintro r7 w7 ⟨J7, ks, hj7, rfl, hks, hs7⟩
  refine RL.p rfl rfl rfl (PV_nilCheckP rfl rfl) ?_
  refine RL.p rfl rfl rfl (by first | exact PV_fieldAddr0 rfl rfl fa78_4 | exact PV_fieldAddr rfl rfl fa78_4) ?_
  refine RL.e0 rfl rfl (EF_storeP (cs := bcells s ++ rtail (ptr k0 0) (ptr kb 0) ((g + 1 : Nat) : Int) 1 f v1 la l sg b led) rfl rfl rfl sz42 (one1_rcells (fun j hj => (hks j hj).cell)) (by rw [ap_len h32 rfl]; exact (by decide : 45 + 10 ≤ 64)) (ap_splice (i := 13) (t' := rtail (ptr k0 0) (ptr kb 0) ((g + 1 : Nat) : Int) 1 f (v1 + 1) ks l sg b led) h32 rfl) hs7 u0.app.there) ?_
  rintro r8 w8 hs8
  refine RL.done (nxt ?_)
  repeat (first | refine W.seq ?_ | refine W.region ?_)
  refine RL.p rfl rfl rfl (PV_move rfl rfl) ?_
  refine RL.p rfl rfl rfl (PV_nilCheckP rfl rfl) ?_
  refine RL.p rfl rfl rfl (by first | exact PV_fieldAddr0 rfl rfl fa78_4 | exact PV_fieldAddr rfl rfl fa78_4) ?_
  refine RL.s rfl rfl rfl (PV_loadMA rfl ag42 sz42 rfl (.tail _ (mapp m0)) (by rw [ap_len h32 rfl]; decide) (ap_part (i := 13) (r := rcells (v1 + 1) 1073741824 ks) h32 rfl)) hs8 ?_
  refine RL.e rfl rfl rfl (K1 rfl fn33 rfl (C33 (hh := roleH (seedH s 0) (seedH s (g + 1))) (fun j _ => length_roleH _ _ j) (fun j hj => (hks j hj).toM) hs8)) ?_
  rintro r9 w9 ⟨J9, u, hj9, rfl, hu1, hu2, hs9⟩
  have hbu : SlB J9 u (bodyR (v1 + 1) 1073741824 (roleH (seedH s 0) (seedH s (g + 1)))) := optB_sl hu1 hu2
  have hbl : (bodyR (v1 + 1) 1073741824 (roleH (seedH s 0) (seedH s (g + 1)))).length ≤ 2 ^ 40 := optB_len (bd_root (fun j _ => length_roleH _ _ j))
  obtain ⟨Au, cu, hue, _⟩ := SlI.shape hbu
  subst hue
  refine RL.p rfl rfl rfl (PV_move rfl rfl) ?_
  refine RL.p rfl rfl rfl (PV_extract rfl rfl rfl) ?_
  refine RL.p rfl rfl rfl (PV_extract rfl rfl rfl) ?_
  refine RL.p rfl rfl rfl (PV_assign rfl rfl) ?_
  refine RL.p rfl rfl rfl (PV_assign rfl rfl) ?_
  refine RL.done (nxt ?_)
  repeat (first | refine W.seq ?_ | refine W.region ?_)
  refine RL.p rfl rfl rfl (PV_move rfl rfl) ?_
  refine RL.p rfl rfl rfl (PV_nilCheckP rfl rfl) ?_
  refine RL.p rfl rfl rfl (by first | exact PV_fieldAddr0 rfl rfl fa78_1 | exact PV_fieldAddr rfl rfl fa78_1) ?_
  refine RL.p rfl rfl rfl (PV_indexArr (i := 0) rfl Tryz.underlying76 sz75 rfl rfl rfl (by decide)) ?_
  refine RL.s rfl rfl rfl (PV_loadM1 rfl ag75 rfl (.tail _ (mapp m0)) (ap_get (i := 0) h32 rfl)) hs9 ?_
  refine RL.p rfl rfl rfl (PV_assign rfl rfl) ?_
  refine RL.done (nxt ?_)
  repeat (first | refine W.seq ?_ | refine W.region ?_)
  refine W.drawsH ((hs9.tail.drop).del x1) [(0, true), (1, true), (2, true), (3, true), (4, true), (5, true), (6, true), (8, true), (9, true), (10, true), (7, false), (11, false), (12, false), (13, false), (14, false), (15, false), (16, false), (17, false)] mixed (by kernel_rfl) (by kernel_rfl) ?_
  have hs10 := hs9.drew
  refine TW.p rfl rfl rfl rfl (PV_move rfl rfl) (((hs10.tail.drop).del x1)) ?_
  refine TW.p rfl rfl rfl rfl (PV_move rfl rfl) (((hs10.tail.drop).del x1)) ?_
  refine TW.p rfl rfl rfl rfl (PV_nilCheckP rfl rfl) (((hs10.tail.drop).del x1)) ?_
  refine TW.p rfl rfl rfl rfl (by first | exact PV_fieldAddr0 rfl rfl fa78_7 | exact PV_fieldAddr rfl rfl fa78_7) (((hs10.tail.drop).del x1)) ?_
  refine TW.p rfl rfl rfl rfl (by first | exact PV_fieldAddr0 rfl rfl fa65_0 | exact PV_fieldAddr rfl rfl fa65_0) (((hs10.tail.drop).del x1)) ?_
  refine TW.s rfl rfl rfl rfl (PV_loadM1 rfl ag59 rfl m0 (ap_get (i := 25) h32 rfl)) (((hs10.tail.drop).del x1)) ?_
  refine TW.p rfl rfl rfl rfl (PV_move rfl rfl) (((hs10.tail.drop).del x1)) ?_
  refine TW.p rfl rfl rfl rfl (PV_move rfl rfl) (((hs10.tail.drop).del x1)) ?_
  refine TW.p rfl rfl rfl rfl (PV_makeFunc1 rfl rfl) (((hs10.tail.drop).del x1)) ?_
  refine TW.p rfl rfl rfl rfl (PV_move rfl rfl) (((hs10.tail.drop).del x1)) ?_
  refine TW.e rfl rfl rfl rfl (K1 rfl fn35 rfl (C35 (length_sha _) (.tail _ (mapp m1)) ((hv0.le hj5).le (hj7.trans hj9)) hs10)) ?_
  rintro r11 w11 ⟨rfl, hs11⟩
  refine ⟨(((hs11.tail.drop).del x1)), ?_⟩
  refine TW.e rfl rfl rfl rfl (K3 rfl fn34 rfl rfl rfl (C34 (u := y0) (length_keyH _) (length_sha _) hu u1.app.there ((hv0.le hj5).le (hj7.trans hj9)) hbu hbl hs11)) ?_
  rintro r12 w12 ⟨J12, mv, hj12, rfl, henv, hs12⟩
  refine ⟨((((hs12.tail.drop).del x1).le hj12)), ?_⟩
  refine TW.e rfl rfl rfl rfl (EF_bs1a rfl el59 rfl rfl (by decide) hs12) ?_
  rintro r13 w13 ⟨b80, rfl, hs13⟩
  refine ⟨((((hs13.tail.tail.drop).del x1).le hj12)), ?_⟩
  refine TW.e rfl rfl rfl rfl (EF_append (l := q) (m := 1) (olds := ecs) (news := [_, mv]) rfl el59 rfl rfl hor hec (rdW (m := 1) hs13 m0 rfl (Nat.le_refl _)) henv.one (by omega) (by decide) hs13.mid2) ?_
  rintro r14 w14 ⟨L14, ho14, hs14⟩
  refine ⟨((((hs14.drop.tail.tail).del x1).le hj12)), ?_⟩
  refine TW.qn rfl rfl rfl rfl (T := fun _ => True) (PV_nilCheckP rfl rfl) trivial (by kernel_rfl) ?_
  refine TW.qn rfl rfl rfl rfl (T := fun _ => True) (by first | exact PV_fieldAddr0 rfl rfl fa78_7 | exact PV_fieldAddr rfl rfl fa78_7) trivial (by kernel_rfl) ?_
  refine TW.qn rfl rfl rfl rfl (T := fun _ => True) (by first | exact PV_fieldAddr0 rfl rfl fa65_0 | exact PV_fieldAddr rfl rfl fa65_0) trivial (by kernel_rfl) ?_
  refine TW.en0 rfl rfl rfl (by kernel_rfl) (EF_storeC (cs := bcells s ++ rtail (ptr k0 0) (ptr kb 0) ((g + 1 : Nat) : Int) 1 f (v1 + 1) ks l sg b led) rfl rfl rfl sz59 ho14.cell (by rw [ap_len h32 rfl]; decide) (ap_set (i := 25) (t' := rtail (ptr k0 0) (ptr kb 0) ((g + 1 : Nat) : Int) 1 f (v1 + 1) ks l sg (fun i => if i = 0 then r14 else b i) led) h32 rfl) hs14 u2.app) ?_
  rintro r15 w15 hs15
  refine TW.done (nxt ?_)
  repeat (first | refine W.seq ?_ | refine W.region ?_)
  refine RL.p rfl rfl rfl (PV_assign rfl rfl) ?_
  refine RL.done (nxt ?_)
  repeat (first | refine W.seq ?_ | refine W.region ?_)
  exact W.ret (ret_tmp rfl rfl ⟨_, rfl, J12, kb, lvn, ks, _, mv, r14, L14, hj5.trans (hj7.trans (hj9.trans hj12)), rfl, hlvn.le (hj7.trans (hj9.trans hj12)), fun j hj => (hks j hj).le (hj9.trans hj12), henv, ho14, hs15.del (Del.app x0)⟩)

end Go.Proofs.YtecbpmgfikgoaaaGreatDoor
