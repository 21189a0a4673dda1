/- Walks of functions 105 106: what each call gives back, and that it writes nothing of anybody else's. Conditions: as each theorem says. Walks of functions 157 136 95: what each call gives back, and that it writes nothing of anybody else's. Conditions: as each theorem says. Struct literals; a Writer beside other variables. Conditions: none. Walks of functions 66 72 98 71 67 65 57: what each call gives back, and that it writes nothing of anybody else's. Conditions: as each theorem says. Walks of functions 74 70 63 55: what each call gives back, and that it writes nothing of anybody else's. Conditions: as each theorem says. Walks of functions 54 73 69: what each call gives back, and that it writes nothing of anybody else's. Conditions: as each theorem says. Walks of functions 62: what each call gives back, and that it writes nothing of anybody else's. Conditions: as each theorem says. Walks of functions 53 33 37 38 39: what each call gives back, and that it writes nothing of anybody else's. Conditions: as each theorem says. -/
import Derived.Test.YtecbpmgfikgoaaaGreatDoorK2
section
set_option linter.unusedVariables false
set_option linter.unusedSimpArgs false
set_option maxRecDepth 8000
set_option maxHeartbeats 4000000
namespace Go.Proofs.YtecbpmgfikgoaaaGreatDoor
open Go Go.RowKit
variable {G w : World} {M : List Chunk} {I : Imm}

theorem C105 {t : Tgt} (hok : t.ok) (hs : Sat G M I w) : Calls Tryz.prog 105 #[aggL (tcells t)] w (Ret fun r w' => r = .bool (targetB t) ∧ Sat G M I w') := by
  refine enter1 Tryz.func105 rfl Tryz.ntmps105 rfl ?_
  repeat (first | refine W.seq ?_ | refine W.region ?_)
  refine RL.e rfl rfl rfl (EF_boxA rfl rfl hs) ?_
  rintro _ w1 ⟨b1, rfl, hs1⟩
  refine RL.p rfl rfl rfl (PV_assign rfl rfl) ?_
  refine RL.done (nxt ?_)
  repeat (first | refine W.seq ?_ | refine W.region ?_)
  refine RL.p rfl rfl rfl (by first | exact PV_fieldAddr0 rfl rfl fa26_0 | exact PV_fieldAddr rfl rfl fa26_0) ?_
  refine RL.s rfl rfl rfl (PV_loadM1 rfl ag9 rfl (by first | exact m0 | exact m1 | exact m2 | exact m3 | exact m4 | exact m5 | exact mapp m0 | exact mapp m1 | exact mapp m2 | exact mapp m3) (by first | exact w32_get (by omega) | exact wcells_get (by omega) | exact bc_get (by omega) | exact tc_34 | exact tc_35 | exact tc_36 | exact tc_0 | exact tc_1 | rfl)) hs1 ?_
  refine RL.e rfl rfl rfl (K1 rfl fn104 rfl (C104 (by first | omega | (simp only [Tgt.ok] at hok; omega)) hs1)) ?_
  rintro _ w2 ⟨rfl, hs2⟩
  refine RL.p rfl rfl rfl (PV_move rfl rfl) ?_
  refine RL.split 6 rfl (fun g1 => ?_) (fun g1 => ?_)
  ·
    refine RL.gp rfl rfl rfl rfl g1 rfl rfl rfl (by first | exact PV_fieldAddr0 rfl rfl fa26_1 | exact PV_fieldAddr rfl rfl fa26_1) ?_
    refine RL.gs rfl rfl rfl rfl g1 rfl rfl rfl (PV_loadM1 rfl ag3 rfl (by first | exact m0 | exact m1 | exact m2 | exact m3 | exact m4 | exact m5 | exact mapp m0 | exact mapp m1 | exact mapp m2 | exact mapp m3) (by first | exact w32_get (by omega) | exact wcells_get (by omega) | exact bc_get (by omega) | exact tc_34 | exact tc_35 | exact tc_36 | exact tc_0 | exact tc_1 | rfl)) hs2 ?_
    refine RL.gp rfl rfl rfl rfl g1 rfl rfl rfl (PV_geq rfl rfl rfl) ?_
    refine RL.p rfl rfl rfl (PV_pickT rfl rfl g1 rfl) ?_
    refine RL.p rfl rfl rfl (PV_move rfl rfl) ?_
    refine RL.split 11 rfl (fun g2 => ?_) (fun g2 => ?_)
    ·
      refine RL.gp rfl rfl rfl rfl g2 rfl rfl rfl (by first | exact PV_fieldAddr0 rfl rfl fa26_1 | exact PV_fieldAddr rfl rfl fa26_1) ?_
      refine RL.gs rfl rfl rfl rfl g2 rfl rfl rfl (PV_loadM1 rfl ag3 rfl (by first | exact m0 | exact m1 | exact m2 | exact m3 | exact m4 | exact m5 | exact mapp m0 | exact mapp m1 | exact mapp m2 | exact mapp m3) (by first | exact w32_get (by omega) | exact wcells_get (by omega) | exact bc_get (by omega) | exact tc_34 | exact tc_35 | exact tc_36 | exact tc_0 | exact tc_1 | rfl)) hs2 ?_
      refine RL.gp rfl rfl rfl rfl g2 rfl rfl rfl (PV_leq rfl rfl rfl) ?_
      refine RL.p rfl rfl rfl (PV_pickT rfl rfl g2 rfl) ?_
      refine RL.p rfl rfl rfl (PV_move rfl rfl) ?_
      refine RL.split 16 rfl (fun g3 => ?_) (fun g3 => ?_)
      ·
        refine RL.gp rfl rfl rfl rfl g3 rfl rfl rfl (by first | exact PV_fieldAddr0 rfl rfl fa26_3 | exact PV_fieldAddr rfl rfl fa26_3) ?_
        refine RL.gs rfl rfl rfl rfl g3 rfl rfl rfl (PV_loadM1 rfl ag9 rfl (by first | exact m0 | exact m1 | exact m2 | exact m3 | exact m4 | exact m5 | exact mapp m0 | exact mapp m1 | exact mapp m2 | exact mapp m3) (by first | exact w32_get (by omega) | exact wcells_get (by omega) | exact bc_get (by omega) | exact tc_34 | exact tc_35 | exact tc_36 | exact tc_0 | exact tc_1 | rfl)) hs2 ?_
        refine RL.ge rfl rfl rfl rfl g3 rfl rfl rfl (K1 rfl fn104 rfl (C104 (by first | omega | (simp only [Tgt.ok] at hok; omega)) hs2)) ?_
        rintro _ w3 ⟨rfl, hs3⟩
        refine RL.p rfl rfl rfl (PV_pickT rfl rfl g3 rfl) ?_
        refine RL.p rfl rfl rfl (PV_move rfl rfl) ?_
        refine RL.split 21 rfl (fun g4 => ?_) (fun g4 => ?_)
        ·
          refine RL.gp rfl rfl rfl rfl g4 rfl rfl rfl (by first | exact PV_fieldAddr0 rfl rfl fa26_4 | exact PV_fieldAddr rfl rfl fa26_4) ?_
          refine RL.gs rfl rfl rfl rfl g4 rfl rfl rfl (PV_loadM1 rfl ag3 rfl (by first | exact m0 | exact m1 | exact m2 | exact m3 | exact m4 | exact m5 | exact mapp m0 | exact mapp m1 | exact mapp m2 | exact mapp m3) (by first | exact w32_get (by omega) | exact wcells_get (by omega) | exact bc_get (by omega) | exact tc_34 | exact tc_35 | exact tc_36 | exact tc_0 | exact tc_1 | rfl)) hs3 ?_
          refine RL.ge rfl rfl rfl rfl g4 rfl rfl rfl (K1 rfl fn97 rfl (C97 hs3)) ?_
          rintro _ w4 ⟨rfl, hs4⟩
          refine RL.p rfl rfl rfl (PV_pickT rfl rfl g4 rfl) ?_
          refine RL.p rfl rfl rfl (PV_move rfl rfl) ?_
          refine RL.split 26 rfl (fun g5 => ?_) (fun g5 => ?_)
          ·
            refine RL.gp rfl rfl rfl rfl g5 rfl rfl rfl (by first | exact PV_fieldAddr0 rfl rfl fa26_5 | exact PV_fieldAddr rfl rfl fa26_5) ?_
            refine RL.gs rfl rfl rfl rfl g5 rfl rfl rfl (PV_loadM1 rfl ag9 rfl (by first | exact m0 | exact m1 | exact m2 | exact m3 | exact m4 | exact m5 | exact mapp m0 | exact mapp m1 | exact mapp m2 | exact mapp m3) (by first | exact w32_get (by omega) | exact wcells_get (by omega) | exact bc_get (by omega) | exact tc_34 | exact tc_35 | exact tc_36 | exact tc_0 | exact tc_1 | rfl)) hs4 ?_
            refine RL.gp rfl rfl rfl rfl g5 rfl rfl rfl (PV_eqs rfl rfl rfl) ?_
            refine RL.gp rfl rfl rfl rfl g5 rfl rfl rfl (PV_move rfl rfl) ?_
            refine RL.split 30 rfl (fun g6 => ?_) (fun g6 => ?_)
            ·
              refine RL.gk rfl rfl rfl rfl g6 rfl rfl rfl ?_
              refine RL.gk rfl rfl rfl rfl g6 rfl rfl rfl ?_
              refine RL.gk rfl rfl rfl rfl g6 rfl rfl rfl ?_
              refine RL.gp rfl rfl rfl rfl g5 rfl rfl rfl (PV_pickT rfl rfl g6 rfl) ?_
              refine RL.p rfl rfl rfl (PV_pickT rfl rfl g5 rfl) ?_
              refine RL.p rfl rfl rfl (PV_assign rfl rfl) ?_
              refine RL.done (nxt ?_)
              repeat (first | refine W.seq ?_ | refine W.region ?_)
              exact W.ret (ret_tmp rfl rfl ⟨_, rfl, (by simp only [targetB, g1, g2, g3, g4, g5, g6, Bool.true_and, Bool.false_and, Bool.true_or, Bool.false_or]), hs4.tail⟩)
            ·
              refine RL.gp rfl rfl rfl rfl g6 rfl rfl rfl (by first | exact PV_fieldAddr0 rfl rfl fa26_5 | exact PV_fieldAddr rfl rfl fa26_5) ?_
              refine RL.gs rfl rfl rfl rfl g6 rfl rfl rfl (PV_loadM1 rfl ag9 rfl (by first | exact m0 | exact m1 | exact m2 | exact m3 | exact m4 | exact m5 | exact mapp m0 | exact mapp m1 | exact mapp m2 | exact mapp m3) (by first | exact w32_get (by omega) | exact wcells_get (by omega) | exact bc_get (by omega) | exact tc_34 | exact tc_35 | exact tc_36 | exact tc_0 | exact tc_1 | rfl)) hs4 ?_
              refine RL.ge rfl rfl rfl rfl g6 rfl rfl rfl (K1 rfl fn104 rfl (C104 (by first | omega | (simp only [Tgt.ok] at hok; omega)) hs4)) ?_
              rintro _ w5 ⟨rfl, hs5⟩
              refine RL.gp rfl rfl rfl rfl g5 rfl rfl rfl (PV_pickF rfl rfl g6 rfl) ?_
              refine RL.p rfl rfl rfl (PV_pickT rfl rfl g5 rfl) ?_
              refine RL.p rfl rfl rfl (PV_assign rfl rfl) ?_
              refine RL.done (nxt ?_)
              repeat (first | refine W.seq ?_ | refine W.region ?_)
              exact W.ret (ret_tmp rfl rfl ⟨_, rfl, (by simp only [targetB, g1, g2, g3, g4, g5, g6, Bool.true_and, Bool.false_and, Bool.true_or, Bool.false_or]), hs5.tail⟩)
          ·
            refine RL.gk rfl rfl rfl rfl g5 rfl rfl rfl ?_
            refine RL.gk rfl rfl rfl rfl g5 rfl rfl rfl ?_
            refine RL.gk rfl rfl rfl rfl g5 rfl rfl rfl ?_
            refine RL.gk rfl rfl rfl rfl g5 rfl rfl rfl ?_
            refine RL.gu rfl rfl rfl rfl rfl rfl ?_
            refine RL.gu rfl rfl rfl rfl rfl rfl ?_
            refine RL.gu rfl rfl rfl rfl rfl rfl ?_
            refine RL.gk rfl rfl rfl rfl g5 rfl rfl rfl ?_
            refine RL.p rfl rfl rfl (PV_pickF rfl rfl g5 rfl) ?_
            refine RL.p rfl rfl rfl (PV_assign rfl rfl) ?_
            refine RL.done (nxt ?_)
            repeat (first | refine W.seq ?_ | refine W.region ?_)
            exact W.ret (ret_tmp rfl rfl ⟨_, rfl, (by simp only [targetB, g1, g2, g3, g4, g5, Bool.true_and, Bool.false_and, Bool.true_or, Bool.false_or]), hs4.tail⟩)
        ·
          refine RL.gk rfl rfl rfl rfl g4 rfl rfl rfl ?_
          refine RL.gk rfl rfl rfl rfl g4 rfl rfl rfl ?_
          refine RL.gk rfl rfl rfl rfl g4 rfl rfl rfl ?_
          refine RL.p rfl rfl rfl (PV_pickF rfl rfl g4 rfl) ?_
          refine RL.p rfl rfl rfl (PV_move rfl rfl) ?_
          refine RL.gk rfl rfl rfl rfl rfl rfl rfl rfl ?_
          refine RL.gk rfl rfl rfl rfl rfl rfl rfl rfl ?_
          refine RL.gk rfl rfl rfl rfl rfl rfl rfl rfl ?_
          refine RL.gk rfl rfl rfl rfl rfl rfl rfl rfl ?_
          refine RL.gu rfl rfl rfl rfl rfl rfl ?_
          refine RL.gu rfl rfl rfl rfl rfl rfl ?_
          refine RL.gu rfl rfl rfl rfl rfl rfl ?_
          refine RL.gk rfl rfl rfl rfl rfl rfl rfl rfl ?_
          refine RL.p rfl rfl rfl (PV_pickF rfl rfl rfl rfl) ?_
          refine RL.p rfl rfl rfl (PV_assign rfl rfl) ?_
          refine RL.done (nxt ?_)
          repeat (first | refine W.seq ?_ | refine W.region ?_)
          exact W.ret (ret_tmp rfl rfl ⟨_, rfl, (by simp only [targetB, g1, g2, g3, g4, Bool.true_and, Bool.false_and, Bool.true_or, Bool.false_or]), hs3.tail⟩)
      ·
        refine RL.gk rfl rfl rfl rfl g3 rfl rfl rfl ?_
        refine RL.gk rfl rfl rfl rfl g3 rfl rfl rfl ?_
        refine RL.gk rfl rfl rfl rfl g3 rfl rfl rfl ?_
        refine RL.p rfl rfl rfl (PV_pickF rfl rfl g3 rfl) ?_
        refine RL.p rfl rfl rfl (PV_move rfl rfl) ?_
        refine RL.gk rfl rfl rfl rfl rfl rfl rfl rfl ?_
        refine RL.gk rfl rfl rfl rfl rfl rfl rfl rfl ?_
        refine RL.gk rfl rfl rfl rfl rfl rfl rfl rfl ?_
        refine RL.p rfl rfl rfl (PV_pickF rfl rfl rfl rfl) ?_
        refine RL.p rfl rfl rfl (PV_move rfl rfl) ?_
        refine RL.gk rfl rfl rfl rfl rfl rfl rfl rfl ?_
        refine RL.gk rfl rfl rfl rfl rfl rfl rfl rfl ?_
        refine RL.gk rfl rfl rfl rfl rfl rfl rfl rfl ?_
        refine RL.gk rfl rfl rfl rfl rfl rfl rfl rfl ?_
        refine RL.gu rfl rfl rfl rfl rfl rfl ?_
        refine RL.gu rfl rfl rfl rfl rfl rfl ?_
        refine RL.gu rfl rfl rfl rfl rfl rfl ?_
        refine RL.gk rfl rfl rfl rfl rfl rfl rfl rfl ?_
        refine RL.p rfl rfl rfl (PV_pickF rfl rfl rfl rfl) ?_
        refine RL.p rfl rfl rfl (PV_assign rfl rfl) ?_
        refine RL.done (nxt ?_)
        repeat (first | refine W.seq ?_ | refine W.region ?_)
        exact W.ret (ret_tmp rfl rfl ⟨_, rfl, (by simp only [targetB, g1, g2, g3, Bool.true_and, Bool.false_and, Bool.true_or, Bool.false_or]), hs2.tail⟩)
    ·
      refine RL.gk rfl rfl rfl rfl g2 rfl rfl rfl ?_
      refine RL.gk rfl rfl rfl rfl g2 rfl rfl rfl ?_
      refine RL.gk rfl rfl rfl rfl g2 rfl rfl rfl ?_
      refine RL.p rfl rfl rfl (PV_pickF rfl rfl g2 rfl) ?_
      refine RL.p rfl rfl rfl (PV_move rfl rfl) ?_
      refine RL.gk rfl rfl rfl rfl rfl rfl rfl rfl ?_
      refine RL.gk rfl rfl rfl rfl rfl rfl rfl rfl ?_
      refine RL.gk rfl rfl rfl rfl rfl rfl rfl rfl ?_
      refine RL.p rfl rfl rfl (PV_pickF rfl rfl rfl rfl) ?_
      refine RL.p rfl rfl rfl (PV_move rfl rfl) ?_
      refine RL.gk rfl rfl rfl rfl rfl rfl rfl rfl ?_
      refine RL.gk rfl rfl rfl rfl rfl rfl rfl rfl ?_
      refine RL.gk rfl rfl rfl rfl rfl rfl rfl rfl ?_
      refine RL.p rfl rfl rfl (PV_pickF rfl rfl rfl rfl) ?_
      refine RL.p rfl rfl rfl (PV_move rfl rfl) ?_
      refine RL.gk rfl rfl rfl rfl rfl rfl rfl rfl ?_
      refine RL.gk rfl rfl rfl rfl rfl rfl rfl rfl ?_
      refine RL.gk rfl rfl rfl rfl rfl rfl rfl rfl ?_
      refine RL.gk rfl rfl rfl rfl rfl rfl rfl rfl ?_
      refine RL.gu rfl rfl rfl rfl rfl rfl ?_
      refine RL.gu rfl rfl rfl rfl rfl rfl ?_
      refine RL.gu rfl rfl rfl rfl rfl rfl ?_
      refine RL.gk rfl rfl rfl rfl rfl rfl rfl rfl ?_
      refine RL.p rfl rfl rfl (PV_pickF rfl rfl rfl rfl) ?_
      refine RL.p rfl rfl rfl (PV_assign rfl rfl) ?_
      refine RL.done (nxt ?_)
      repeat (first | refine W.seq ?_ | refine W.region ?_)
      exact W.ret (ret_tmp rfl rfl ⟨_, rfl, (by simp only [targetB, g1, g2, Bool.true_and, Bool.false_and, Bool.true_or, Bool.false_or]), hs2.tail⟩)
  ·
    refine RL.gk rfl rfl rfl rfl g1 rfl rfl rfl ?_
    refine RL.gk rfl rfl rfl rfl g1 rfl rfl rfl ?_
    refine RL.gk rfl rfl rfl rfl g1 rfl rfl rfl ?_
    refine RL.p rfl rfl rfl (PV_pickF rfl rfl g1 rfl) ?_
    refine RL.p rfl rfl rfl (PV_move rfl rfl) ?_
    refine RL.gk rfl rfl rfl rfl rfl rfl rfl rfl ?_
    refine RL.gk rfl rfl rfl rfl rfl rfl rfl rfl ?_
    refine RL.gk rfl rfl rfl rfl rfl rfl rfl rfl ?_
    refine RL.p rfl rfl rfl (PV_pickF rfl rfl rfl rfl) ?_
    refine RL.p rfl rfl rfl (PV_move rfl rfl) ?_
    refine RL.gk rfl rfl rfl rfl rfl rfl rfl rfl ?_
    refine RL.gk rfl rfl rfl rfl rfl rfl rfl rfl ?_
    refine RL.gk rfl rfl rfl rfl rfl rfl rfl rfl ?_
    refine RL.p rfl rfl rfl (PV_pickF rfl rfl rfl rfl) ?_
    refine RL.p rfl rfl rfl (PV_move rfl rfl) ?_
    refine RL.gk rfl rfl rfl rfl rfl rfl rfl rfl ?_
    refine RL.gk rfl rfl rfl rfl rfl rfl rfl rfl ?_
    refine RL.gk rfl rfl rfl rfl rfl rfl rfl rfl ?_
    refine RL.p rfl rfl rfl (PV_pickF rfl rfl rfl rfl) ?_
    refine RL.p rfl rfl rfl (PV_move rfl rfl) ?_
    refine RL.gk rfl rfl rfl rfl rfl rfl rfl rfl ?_
    refine RL.gk rfl rfl rfl rfl rfl rfl rfl rfl ?_
    refine RL.gk rfl rfl rfl rfl rfl rfl rfl rfl ?_
    refine RL.gk rfl rfl rfl rfl rfl rfl rfl rfl ?_
    refine RL.gu rfl rfl rfl rfl rfl rfl ?_
    refine RL.gu rfl rfl rfl rfl rfl rfl ?_
    refine RL.gu rfl rfl rfl rfl rfl rfl ?_
    refine RL.gk rfl rfl rfl rfl rfl rfl rfl rfl ?_
    refine RL.p rfl rfl rfl (PV_pickF rfl rfl rfl rfl) ?_
    refine RL.p rfl rfl rfl (PV_assign rfl rfl) ?_
    refine RL.done (nxt ?_)
    repeat (first | refine W.seq ?_ | refine W.region ?_)
    exact W.ret (ret_tmp rfl rfl ⟨_, rfl, (by simp only [targetB, g1, Bool.true_and, Bool.false_and, Bool.true_or, Bool.false_or]), hs2.tail⟩)

theorem C106 {a b : Tgt} (hs : Sat G M I w) : Calls Tryz.prog 106 #[aggL (tcells a), aggL (tcells b)] w (Ret fun r w' => r = .bool (risesB a b) ∧ Sat G M I w') := by
  refine enter2 Tryz.func106 rfl Tryz.ntmps106 rfl ?_
  repeat (first | refine W.seq ?_ | refine W.region ?_)
  refine RL.e rfl rfl rfl (EF_boxA rfl rfl hs) ?_
  rintro _ w1 ⟨b2, rfl, hs1⟩
  refine RL.e rfl rfl rfl (EF_boxA rfl rfl hs1) ?_
  rintro _ w2 ⟨b3, rfl, hs2⟩
  refine RL.p rfl rfl rfl (PV_assign rfl rfl) ?_
  refine RL.done (nxt ?_)
  repeat (first | refine W.seq ?_ | refine W.region ?_)
  refine RL.p rfl rfl rfl (by first | exact PV_fieldAddr0 rfl rfl fa26_0 | exact PV_fieldAddr rfl rfl fa26_0) ?_
  refine RL.s rfl rfl rfl (PV_loadM1 rfl ag9 rfl (by first | exact m0 | exact m1 | exact m2 | exact m3 | exact m4 | exact m5 | exact mapp m0 | exact mapp m1 | exact mapp m2 | exact mapp m3) (by first | exact w32_get (by omega) | exact wcells_get (by omega) | exact bc_get (by omega) | exact tc_34 | exact tc_35 | exact tc_36 | exact tc_0 | exact tc_1 | rfl)) hs2 ?_
  refine RL.p rfl rfl rfl (by first | exact PV_fieldAddr0 rfl rfl fa26_0 | exact PV_fieldAddr rfl rfl fa26_0) ?_
  refine RL.s rfl rfl rfl (PV_loadM1 rfl ag9 rfl (by first | exact m0 | exact m1 | exact m2 | exact m3 | exact m4 | exact m5 | exact mapp m0 | exact mapp m1 | exact mapp m2 | exact mapp m3) (by first | exact w32_get (by omega) | exact wcells_get (by omega) | exact bc_get (by omega) | exact tc_34 | exact tc_35 | exact tc_36 | exact tc_0 | exact tc_1 | rfl)) hs2 ?_
  refine RL.p rfl rfl rfl (PV_lts rfl rfl rfl) ?_
  refine RL.p rfl rfl rfl (PV_move rfl rfl) ?_
  refine RL.split 10 rfl (fun g1 => ?_) (fun g1 => ?_)
  ·
    refine RL.gk rfl rfl rfl rfl g1 rfl rfl rfl ?_
    refine RL.gk rfl rfl rfl rfl g1 rfl rfl rfl ?_
    refine RL.gk rfl rfl rfl rfl g1 rfl rfl rfl ?_
    refine RL.gk rfl rfl rfl rfl g1 rfl rfl rfl ?_
    refine RL.gk rfl rfl rfl rfl g1 rfl rfl rfl ?_
    refine RL.gk rfl rfl rfl rfl g1 rfl rfl rfl ?_
    refine RL.gu rfl rfl rfl rfl rfl rfl ?_
    refine RL.gu rfl rfl rfl rfl rfl rfl ?_
    refine RL.gu rfl rfl rfl rfl rfl rfl ?_
    refine RL.gu rfl rfl rfl rfl rfl rfl ?_
    refine RL.gu rfl rfl rfl rfl rfl rfl ?_
    refine RL.gk rfl rfl rfl rfl g1 rfl rfl rfl ?_
    refine RL.p rfl rfl rfl (PV_pickT rfl rfl g1 rfl) ?_
    refine RL.p rfl rfl rfl (PV_assign rfl rfl) ?_
    refine RL.done (nxt ?_)
    repeat (first | refine W.seq ?_ | refine W.region ?_)
    exact W.ret (ret_tmp rfl rfl ⟨_, rfl, (by simp only [risesB, g1, Bool.true_and, Bool.false_and, Bool.true_or, Bool.false_or]), hs2.tail.tail⟩)
  ·
    refine RL.gp rfl rfl rfl rfl g1 rfl rfl rfl (by first | exact PV_fieldAddr0 rfl rfl fa26_0 | exact PV_fieldAddr rfl rfl fa26_0) ?_
    refine RL.gs rfl rfl rfl rfl g1 rfl rfl rfl (PV_loadM1 rfl ag9 rfl (by first | exact m0 | exact m1 | exact m2 | exact m3 | exact m4 | exact m5 | exact mapp m0 | exact mapp m1 | exact mapp m2 | exact mapp m3) (by first | exact w32_get (by omega) | exact wcells_get (by omega) | exact bc_get (by omega) | exact tc_34 | exact tc_35 | exact tc_36 | exact tc_0 | exact tc_1 | rfl)) hs2 ?_
    refine RL.gp rfl rfl rfl rfl g1 rfl rfl rfl (by first | exact PV_fieldAddr0 rfl rfl fa26_0 | exact PV_fieldAddr rfl rfl fa26_0) ?_
    refine RL.gs rfl rfl rfl rfl g1 rfl rfl rfl (PV_loadM1 rfl ag9 rfl (by first | exact m0 | exact m1 | exact m2 | exact m3 | exact m4 | exact m5 | exact mapp m0 | exact mapp m1 | exact mapp m2 | exact mapp m3) (by first | exact w32_get (by omega) | exact wcells_get (by omega) | exact bc_get (by omega) | exact tc_34 | exact tc_35 | exact tc_36 | exact tc_0 | exact tc_1 | rfl)) hs2 ?_
    refine RL.gp rfl rfl rfl rfl g1 rfl rfl rfl (PV_eqs rfl rfl rfl) ?_
    refine RL.gp rfl rfl rfl rfl g1 rfl rfl rfl (PV_move rfl rfl) ?_
    refine RL.split 16 rfl (fun g2 => ?_) (fun g2 => ?_)
    ·
      refine RL.gp rfl rfl rfl rfl g2 rfl rfl rfl (by first | exact PV_fieldAddr0 rfl rfl fa26_5 | exact PV_fieldAddr rfl rfl fa26_5) ?_
      refine RL.gs rfl rfl rfl rfl g2 rfl rfl rfl (PV_loadM1 rfl ag9 rfl (by first | exact m0 | exact m1 | exact m2 | exact m3 | exact m4 | exact m5 | exact mapp m0 | exact mapp m1 | exact mapp m2 | exact mapp m3) (by first | exact w32_get (by omega) | exact wcells_get (by omega) | exact bc_get (by omega) | exact tc_34 | exact tc_35 | exact tc_36 | exact tc_0 | exact tc_1 | rfl)) hs2 ?_
      refine RL.gp rfl rfl rfl rfl g2 rfl rfl rfl (by first | exact PV_fieldAddr0 rfl rfl fa26_5 | exact PV_fieldAddr rfl rfl fa26_5) ?_
      refine RL.gs rfl rfl rfl rfl g2 rfl rfl rfl (PV_loadM1 rfl ag9 rfl (by first | exact m0 | exact m1 | exact m2 | exact m3 | exact m4 | exact m5 | exact mapp m0 | exact mapp m1 | exact mapp m2 | exact mapp m3) (by first | exact w32_get (by omega) | exact wcells_get (by omega) | exact bc_get (by omega) | exact tc_34 | exact tc_35 | exact tc_36 | exact tc_0 | exact tc_1 | rfl)) hs2 ?_
      refine RL.gp rfl rfl rfl rfl g2 rfl rfl rfl (PV_lts rfl rfl rfl) ?_
      refine RL.gp rfl rfl rfl rfl g1 rfl rfl rfl (PV_pickT rfl rfl g2 rfl) ?_
      refine RL.p rfl rfl rfl (PV_pickF rfl rfl g1 rfl) ?_
      refine RL.p rfl rfl rfl (PV_assign rfl rfl) ?_
      refine RL.done (nxt ?_)
      repeat (first | refine W.seq ?_ | refine W.region ?_)
      exact W.ret (ret_tmp rfl rfl ⟨_, rfl, (by simp only [risesB, g1, g2, Bool.true_and, Bool.false_and, Bool.true_or, Bool.false_or]), hs2.tail.tail⟩)
    ·
      refine RL.gk rfl rfl rfl rfl g2 rfl rfl rfl ?_
      refine RL.gk rfl rfl rfl rfl g2 rfl rfl rfl ?_
      refine RL.gk rfl rfl rfl rfl g2 rfl rfl rfl ?_
      refine RL.gk rfl rfl rfl rfl g2 rfl rfl rfl ?_
      refine RL.gk rfl rfl rfl rfl g2 rfl rfl rfl ?_
      refine RL.gp rfl rfl rfl rfl g1 rfl rfl rfl (PV_pickF rfl rfl g2 rfl) ?_
      refine RL.p rfl rfl rfl (PV_pickF rfl rfl g1 rfl) ?_
      refine RL.p rfl rfl rfl (PV_assign rfl rfl) ?_
      refine RL.done (nxt ?_)
      repeat (first | refine W.seq ?_ | refine W.region ?_)
      exact W.ret (ret_tmp rfl rfl ⟨_, rfl, (by simp only [risesB, g1, g2, Bool.true_and, Bool.false_and, Bool.true_or, Bool.false_or]), hs2.tail.tail⟩)

end Go.Proofs.YtecbpmgfikgoaaaGreatDoor
end
section
set_option linter.unusedVariables false
set_option linter.unusedSimpArgs false
set_option maxRecDepth 8000
set_option maxHeartbeats 4000000
namespace Go.Proofs.YtecbpmgfikgoaaaGreatDoor
open Go Go.RowKit
variable {G w : World} {M : List Chunk} {I : Imm}

theorem C157 {A : Option Addr} {c : Nat} {h : List UInt8} (hs : Sat G M I w) : Calls Tryz.prog 157 #[.slice A 0 c, aggL (bcells h)] w (Ret fun r w' => r = .int .i64 (-1) ∧ Sat G M I w') := by
  refine enter2 Tryz.func157 rfl Tryz.ntmps157 rfl ?_
  repeat (first | refine W.seq ?_ | refine W.region ?_)
  refine RL.e rfl rfl rfl (EF_boxA rfl rfl hs) ?_
  rintro _ w1 ⟨b3, rfl, hs1⟩
  refine RL.p rfl rfl rfl (PV_assign rfl rfl) ?_
  refine RL.done (nxt ?_)
  repeat (first | refine W.seq ?_ | refine W.region ?_)
  refine RL.p rfl rfl rfl (PV_move rfl rfl) ?_
  refine RL.p rfl rfl rfl (PV_len rfl Tryz.underlying37 rfl) ?_
  refine RL.p rfl rfl rfl (PV_move rfl rfl) ?_
  refine RL.done (nxt ?_)
  repeat (first | refine W.seq ?_ | refine W.region ?_)
  refine W.block ?_
  repeat (first | refine W.seq ?_ | refine W.region ?_)
  refine W.loop (F := fun _ : Unit => [(8, .int .i64 0), (7, .int .i64 ((0 : Nat) : Int))]) (J := fun _ w => ∃ b, Sat G ((b, bcells h, 24) :: M) I w) (m := fun _ => 0) () (by repeat first | exact Sub.nil | refine Sub.cons rfl ?_) ⟨_, hs1⟩ ?_
  rintro _ w2 ⟨b, hs2⟩
  repeat (first | refine W.seq ?_ | refine W.region ?_)
  refine RL.p rfl rfl rfl (PV_lss rfl rfl rfl) ?_
  refine RL.done (nxt ?_)
  repeat (first | refine W.seq ?_ | refine W.region ?_)
  refine W.cond rfl (fun h1 => ?_) (fun h1 => ?_)
  · exact absurd (of_decide_eq_true h1) (by omega)
  repeat (first | refine W.seq ?_ | refine W.region ?_)
  refine W.exit (nxt ?_)
  repeat (first | refine W.seq ?_ | refine W.region ?_)
  refine RL.p rfl rfl rfl (PV_assign rfl rfl) ?_
  refine RL.done (nxt ?_)
  repeat (first | refine W.seq ?_ | refine W.region ?_)
  exact W.ret (ret_tmp rfl rfl ⟨_, rfl, rfl, hs2.tail⟩)

theorem C136 {A : Option Addr} {c : Nat} {h : List UInt8} (h32 : h.length = 32) (hs : Sat G M I w) : Calls Tryz.prog 136 #[.slice A 0 c, aggL (bcells h)] w (Ret fun r w' => r = .bool false ∧ Sat G M I w') := by
  refine enter2 Tryz.func136 rfl Tryz.ntmps136 rfl ?_
  repeat (first | refine W.seq ?_ | refine W.region ?_)
  refine RL.e rfl rfl rfl (EF_boxA rfl rfl hs) ?_
  rintro _ w1 ⟨b3, rfl, hs1⟩
  refine RL.p rfl rfl rfl (PV_assign rfl rfl) ?_
  refine RL.done (nxt ?_)
  repeat (first | refine W.seq ?_ | refine W.region ?_)
  refine RL.p rfl rfl rfl (PV_move rfl rfl) ?_
  refine RL.s rfl rfl rfl (PV_loadMA rfl ag24 sz24 rfl (by first | exact m0 | exact m1 | exact m2 | exact m3 | exact m4 | exact m5 | exact mapp m0 | exact mapp m1 | exact mapp m2 | exact mapp m3) (by simp [length_bcells, h32]) (part_whole (by simp [length_bcells, h32]))) hs1 ?_
  refine RL.e rfl rfl rfl (K2 rfl fn157 rfl rfl (C157 hs1)) ?_
  rintro _ w2 ⟨rfl, hs2⟩
  refine RL.p rfl rfl rfl (PV_geq rfl rfl rfl) ?_
  refine RL.p rfl rfl rfl (PV_assign rfl rfl) ?_
  refine RL.done (nxt ?_)
  repeat (first | refine W.seq ?_ | refine W.region ?_)
  exact W.ret (ret_tmp rfl rfl ⟨_, rfl, rfl, hs2.tail⟩)

theorem C95 {v : Value} {h : List UInt8} (h32 : h.length = 32) (hv : SlM G M I 32 v 1 (bcells h)) (hs : Sat G M I w) : Calls Tryz.prog 95 #[aggL [v, .int .i64 1]] w (Ret fun r w' => r = .bool true ∧ Sat G M I w') := by
  obtain ⟨bb, off, c, rfl, hc, hmem⟩ := hv.elem (by omega)
  refine enter1 Tryz.func95 rfl Tryz.ntmps95 rfl ?_
  repeat (first | refine W.seq ?_ | refine W.region ?_)
  refine RL.e rfl rfl rfl (EF_boxA rfl rfl hs) ?_
  rintro _ w1 ⟨b1, rfl, hs1⟩
  refine RL.p rfl rfl rfl (PV_assign rfl rfl) ?_
  refine RL.done (nxt ?_)
  repeat (first | refine W.seq ?_ | refine W.region ?_)
  refine RL.p rfl rfl rfl (by first | exact PV_fieldAddr0 rfl rfl fa39_0 | exact PV_fieldAddr rfl rfl fa39_0) ?_
  refine RL.s rfl rfl rfl (PV_loadM1 rfl ag37 rfl (by first | exact m0 | exact m1 | exact m2 | exact m3 | exact m4 | exact m5 | exact mapp m0 | exact mapp m1 | exact mapp m2 | exact mapp m3) (by first | exact w32_get (by omega) | exact wcells_get (by omega) | exact bc_get (by omega) | exact tc_34 | exact tc_35 | exact tc_36 | exact tc_0 | exact tc_1 | rfl)) hs1 ?_
  refine RL.p rfl rfl rfl (PV_len rfl Tryz.underlying37 rfl) ?_
  refine RL.p rfl rfl rfl (PV_lss rfl rfl rfl) ?_
  refine RL.p rfl rfl rfl (PV_move rfl rfl) ?_
  refine RL.split 9 rfl (fun g1 => by exact absurd (of_decide_eq_true g1) (by omega)) (fun g1 => ?_)
  refine RL.gp rfl rfl rfl rfl g1 rfl rfl rfl (by first | exact PV_fieldAddr0 rfl rfl fa39_0 | exact PV_fieldAddr rfl rfl fa39_0) ?_
  refine RL.gs rfl rfl rfl rfl g1 rfl rfl rfl (PV_loadM1 rfl ag37 rfl (by first | exact m0 | exact m1 | exact m2 | exact m3 | exact m4 | exact m5 | exact mapp m0 | exact mapp m1 | exact mapp m2 | exact mapp m3) (by first | exact w32_get (by omega) | exact wcells_get (by omega) | exact bc_get (by omega) | exact tc_34 | exact tc_35 | exact tc_36 | exact tc_0 | exact tc_1 | rfl)) hs1 ?_
  refine RL.gp rfl rfl rfl rfl g1 rfl rfl rfl (PV_len rfl Tryz.underlying37 rfl) ?_
  refine RL.gp rfl rfl rfl rfl g1 rfl rfl rfl (PV_gtr rfl rfl rfl) ?_
  refine RL.p rfl rfl rfl (PV_pickF rfl rfl g1 rfl) ?_
  refine RL.p rfl rfl rfl (PV_move rfl rfl) ?_
  refine RL.split 15 rfl (fun g2 => by exact absurd (of_decide_eq_true g2) (by omega)) (fun g2 => ?_)
  refine RL.gp rfl rfl rfl rfl g2 rfl rfl rfl (by first | exact PV_fieldAddr0 rfl rfl fa39_1 | exact PV_fieldAddr rfl rfl fa39_1) ?_
  refine RL.gs rfl rfl rfl rfl g2 rfl rfl rfl (PV_loadM1 rfl ag3 rfl (by first | exact m0 | exact m1 | exact m2 | exact m3 | exact m4 | exact m5 | exact mapp m0 | exact mapp m1 | exact mapp m2 | exact mapp m3) (by first | exact w32_get (by omega) | exact wcells_get (by omega) | exact bc_get (by omega) | exact tc_34 | exact tc_35 | exact tc_36 | exact tc_0 | exact tc_1 | rfl)) hs1 ?_
  refine RL.gp rfl rfl rfl rfl g2 rfl rfl rfl (PV_lss rfl rfl rfl) ?_
  refine RL.p rfl rfl rfl (PV_pickF rfl rfl g2 rfl) ?_
  refine RL.p rfl rfl rfl (PV_move rfl rfl) ?_
  refine RL.split 20 rfl (fun g3 => by exact absurd (of_decide_eq_true g3) (by omega)) (fun g3 => ?_)
  refine RL.gp rfl rfl rfl rfl g3 rfl rfl rfl (by first | exact PV_fieldAddr0 rfl rfl fa39_1 | exact PV_fieldAddr rfl rfl fa39_1) ?_
  refine RL.gs rfl rfl rfl rfl g3 rfl rfl rfl (PV_loadM1 rfl ag3 rfl (by first | exact m0 | exact m1 | exact m2 | exact m3 | exact m4 | exact m5 | exact mapp m0 | exact mapp m1 | exact mapp m2 | exact mapp m3) (by first | exact w32_get (by omega) | exact wcells_get (by omega) | exact bc_get (by omega) | exact tc_34 | exact tc_35 | exact tc_36 | exact tc_0 | exact tc_1 | rfl)) hs1 ?_
  refine RL.gp rfl rfl rfl rfl g3 rfl rfl rfl (by first | exact PV_fieldAddr0 rfl rfl fa39_0 | exact PV_fieldAddr rfl rfl fa39_0) ?_
  refine RL.gs rfl rfl rfl rfl g3 rfl rfl rfl (PV_loadM1 rfl ag37 rfl (by first | exact m0 | exact m1 | exact m2 | exact m3 | exact m4 | exact m5 | exact mapp m0 | exact mapp m1 | exact mapp m2 | exact mapp m3) (by first | exact w32_get (by omega) | exact wcells_get (by omega) | exact bc_get (by omega) | exact tc_34 | exact tc_35 | exact tc_36 | exact tc_0 | exact tc_1 | rfl)) hs1 ?_
  refine RL.gp rfl rfl rfl rfl g3 rfl rfl rfl (PV_len rfl Tryz.underlying37 rfl) ?_
  refine RL.gp rfl rfl rfl rfl g3 rfl rfl rfl (PV_gtr rfl rfl rfl) ?_
  refine RL.p rfl rfl rfl (PV_pickF rfl rfl g3 rfl) ?_
  refine RL.done (nxt ?_)
  repeat (first | refine W.seq ?_ | refine W.region ?_)
  refine W.cond rfl (fun h1 => ?_) (fun h1 => ?_)
  · exact absurd (of_decide_eq_true h1) (by omega)
  refine W.skip (nxt ?_)
  repeat (first | refine W.seq ?_ | refine W.region ?_)
  refine RL.p rfl rfl rfl (by first | exact PV_fieldAddr0 rfl rfl fa39_0 | exact PV_fieldAddr rfl rfl fa39_0) ?_
  refine RL.s rfl rfl rfl (PV_loadM1 rfl ag37 rfl (by first | exact m0 | exact m1 | exact m2 | exact m3 | exact m4 | exact m5 | exact mapp m0 | exact mapp m1 | exact mapp m2 | exact mapp m3) (by first | exact w32_get (by omega) | exact wcells_get (by omega) | exact bc_get (by omega) | exact tc_34 | exact tc_35 | exact tc_36 | exact tc_0 | exact tc_1 | rfl)) hs1 ?_
  refine RL.p rfl rfl rfl (PV_len rfl Tryz.underlying37 rfl) ?_
  refine RL.p rfl rfl rfl (PV_move rfl rfl) ?_
  refine RL.done (nxt ?_)
  repeat (first | refine W.seq ?_ | refine W.region ?_)
  refine W.block ?_
  repeat (first | refine W.seq ?_ | refine W.region ?_)
  refine W.loop (F := fun i : Nat => [(31, .int .i64 (i : Int)), (30, .int .i64 ((1 : Nat) : Int)), (29, .slice (some ⟨bb, off, none⟩) 1 c), (1, ptr b1 0)]) (J := fun i w => i ≤ 1 ∧ Sat G ((b1, [.slice (some ⟨bb, off, none⟩) 1 c, .int .i64 1], 39) :: M) I w) (m := fun i => 1 - i) 0 (by repeat first | exact Sub.nil | refine Sub.cons rfl ?_) ⟨by omega, hs1⟩ ?_
  rintro i w2 ⟨hi, hs2⟩
  repeat (first | refine W.seq ?_ | refine W.region ?_)
  refine RL.p rfl rfl rfl (PV_lss rfl rfl rfl) ?_
  refine RL.done (nxt ?_)
  repeat (first | refine W.seq ?_ | refine W.region ?_)
  refine W.cond rfl (fun h2 => ?_) (fun h2 => ?_)
  ·
    obtain rfl : i = 0 := by have := of_decide_eq_true h2; omega
    refine  W.skip (nxt ?_)
    repeat (first | refine W.seq ?_ | refine W.region ?_)
    refine W.block ?_
    repeat (first | refine W.seq ?_ | refine W.region ?_)
    refine RL.p rfl rfl rfl (PV_move rfl rfl) ?_
    refine RL.p rfl rfl rfl (PV_indexAddr rfl Tryz.underlying37 sz24 rfl rfl rfl (by omega)) ?_
    refine RL.s rfl rfl rfl (PV_loadMemA (j := 0 * 32) rfl ag24 sz24 rfl (fun _ h => h.tail) hmem (by simp [length_bcells, h32]) (part_whole (by simp [length_bcells, h32]))) hs2 ?_
    refine RL.e rfl rfl rfl (EF_allocA rfl zr24 hs2) ?_
    rintro _ w3 ⟨b4, rfl, hs3⟩
    refine RL.p rfl rfl rfl (PV_assign rfl rfl) ?_
    refine RL.e0 rfl rfl (EF_storeA (cs := zl24) rfl rfl rfl sz24 (by simp [length_bcells, h32]; rfl) (one1_bcells _) hs3 (by first | exact u0 | exact u1 | exact u2 | exact u3 | exact u4 | exact u5 | exact u0.app | exact u1.app | exact u2.app | exact u3.app)) ?_
    rintro _ w4 hs4
    refine RL.done (nxt ?_)
    repeat (first | refine W.seq ?_ | refine W.region ?_)
    refine W.drawsH hs4 [(0, true), (1, true), (2, true), (3, true), (4, false), (5, false)] mixed (by kernel_rfl) (by kernel_rfl) ?_
    have hs5 := hs4.drew
    refine TW.p rfl rfl rfl rfl (by first | exact PV_fieldAddr0 rfl rfl fa39_0 | exact PV_fieldAddr rfl rfl fa39_0) hs5 ?_
    refine TW.s rfl rfl rfl rfl (PV_loadM1 rfl ag37 rfl (by first | exact m0 | exact m1 | exact m2 | exact m3 | exact m4 | exact m5 | exact mapp m0 | exact mapp m1 | exact mapp m2 | exact mapp m3) (by first | exact w32_get (by omega) | exact wcells_get (by omega) | exact bc_get (by omega) | exact tc_34 | exact tc_35 | exact tc_36 | exact tc_0 | exact tc_1 | rfl)) hs5 ?_
    refine TW.p rfl rfl rfl rfl (PV_move rfl rfl) hs5 ?_
    refine TW.p rfl rfl rfl rfl (PV_sliceSl (p := 0) (r := 0) rfl Tryz.underlying37 sz24 rfl (.inl ⟨rfl, rfl⟩) (.inr ⟨_, rfl, _, _, rfl, rfl⟩) (Nat.le_refl _) (Nat.zero_le _)) hs5 ?_
    refine TW.q rfl rfl rfl rfl (PV_loadMA rfl ag24 sz24 rfl (by first | exact m0 | exact m1 | exact m2 | exact m3 | exact m4 | exact m5 | exact mapp m0 | exact mapp m1 | exact mapp m2 | exact mapp m3) (by simp [length_bcells, h32]) (part_whole (by simp [length_bcells, h32]))) hs5 (fun _ => hs5) ?_
    refine TW.e rfl rfl rfl rfl (K2 rfl fn136 rfl rfl (C136 h32 hs5)) ?_
    rintro _ w6 ⟨rfl, hs6⟩
    refine ⟨hs6, ?_⟩
    refine TW.done (nxt ?_)
    repeat (first | refine W.seq ?_ | refine W.region ?_)
    refine W.cond rfl (fun h3 => ?_) (fun h3 => ?_)
    · cases h3
    refine W.skip (nxt ?_)
    repeat (first | refine W.seq ?_ | refine W.region ?_)
    refine RL.p rfl rfl rfl (PV_add rfl rfl rfl (by omega)) ?_
    refine RL.p rfl rfl rfl (PV_move rfl rfl) ?_
    refine RL.done (round_end (0 + 1) ?_ ?_ ?_)
    · repeat first | exact Sub.nil | refine Sub.cons rfl ?_
    · exact ⟨by omega, hs6.tail⟩
    · first | omega | (dsimp only; omega)
  repeat (first | refine W.seq ?_ | refine W.region ?_)
  refine W.exit (nxt ?_)
  repeat (first | refine W.seq ?_ | refine W.region ?_)
  refine RL.p rfl rfl rfl (PV_assign rfl rfl) ?_
  refine RL.done (nxt ?_)
  repeat (first | refine W.seq ?_ | refine W.region ?_)
  exact W.ret (ret_tmp rfl rfl ⟨_, rfl, rfl, hs2.tail⟩)

end Go.Proofs.YtecbpmgfikgoaaaGreatDoor
end
section
set_option linter.unusedVariables false
set_option linter.unusedSimpArgs false
namespace Go.Proofs.YtecbpmgfikgoaaaGreatDoor
open Go Go.RowKit
def PlacesOf (P : Program) (T : TypeId) (pl : List (Nat × Nat)) : Prop := ∃ fs, P.underlying T = some (.struct fs) ∧ fs.toList.mapM (fun f => (P.info? f.type).map fun i => (f.offset, i.size)) = some pl
def fillL (pl : List (Nat × Nat)) : List Value → List (Nat × List Value) → Option (List Value)
  | cs, [] => some cs
  | cs, (i, vs) :: rest =>
    match pl[i]? with
    | some (off, size) => if vs.length = size ∧ off + size ≤ cs.length then fillL pl (splice cs off vs) rest else none
    | none => none
theorem foldl_splice (vs : List Value) : ∀ (cs : List Value) (off j : Nat), off + j + vs.length ≤ cs.length →
    (vs.zipIdx j).foldl (fun (a : Array Value) x => a.setIfInBounds (off + x.2) x.1) cs.toArray = (splice cs (off + j) vs).toArray := by
  induction vs with
  | nil => intro cs off j h; simp [splice]
  | cons v vs ih =>
    intro cs off j h
    simp only [List.length_cons] at h
    rw [List.zipIdx_cons, List.foldl_cons, List.setIfInBounds_toArray, ih _ _ _ (by simp; omega)]
    congr 1
    have hp : off + j < cs.length := by omega
    obtain ⟨p, hpe⟩ : ∃ p, p = off + j := ⟨_, rfl⟩
    rw [← hpe] at hp ⊢
    have h1 : off + (j + 1) = p + 1 := by omega
    have hT : (cs.set p v).take (p + 1) = cs.take p ++ [v] := by
      rw [List.take_succ_eq_append_getElem (by simpa using hp), List.getElem_set_self]
      congr 1
      rw [List.take_set_of_le (Nat.le_refl p)]
    have hD : (cs.set p v).drop (p + 1 + vs.length) = cs.drop (p + (vs.length + 1)) := by
      rw [List.drop_set_of_lt (by omega)]
      congr 1
      omega
    simp only [splice, List.length_cons, h1, hT, hD]
    simp
theorem fill_fillL (pl : List (Nat × Nat)) : ∀ (parts : List (Nat × Value)) (cs rs : List Value), fillL pl cs (parts.map fun x => (x.1, x.2.cells.toList)) = some rs → Instr.fill (pl.toArray[·]?) cs.toArray parts = some rs.toArray := by
  intro parts
  induction parts with
  | nil => intro cs rs h; simp only [List.map_nil, fillL, Option.some.injEq] at h; subst h; rfl
  | cons p parts ih =>
    obtain ⟨i, v⟩ := p
    intro cs rs h
    simp only [List.map_cons, fillL] at h
    cases hp : pl[i]? with
    | none => rw [hp] at h; cases h
    | some q =>
      obtain ⟨off, size⟩ := q
      rw [hp] at h
      simp only at h
      split at h
      · rename_i hc
        have hsz : v.cells.size = size := by simpa using hc.1
        have hf := foldl_splice v.cells.toList cs off 0 (by rw [hc.1]; omega)
        simp only [Instr.fill, List.getElem?_toArray, hp]
        rw [if_neg (by simp [hsz]; exact hc.2)]
        have h2 := ih _ _ h
        rw [← Array.foldl_toList]
        rw [Array.toList_zipIdx]
        simp only [Nat.add_zero] at hf
        rw [hf]
        simpa using h2
      · cases h
def evParts (E : List (Nat × Value)) : List (Nat × Operand) → Option (List (Nat × Value))
  | [] => some []
  | (i, x) :: r => match ev E x, evParts E r with
    | some v, some vs => some ((i, v) :: vs)
    | _, _ => none
section
variable {P : Program} {n : Nat} {E : List (Nat × Value)} {S : World → Prop} {o : Oper} {G w : World} {M M' L : List Chunk} {I J : Imm}
theorem evParts_eval {a : Act} (ha : Env n a E) : ∀ (ps : List (Nat × Operand)) (vs : List (Nat × Value)), evParts E ps = some vs → ps.map (fun x => (x.1, a.eval x.2)) = vs
  | [], vs, h => by simp only [evParts, Option.some.injEq] at h; subst h; rfl
  | (i, x) :: r, vs, h => by
    simp only [evParts] at h
    cases hx : ev E x with
    | none => simp [hx] at h
    | some v =>
      cases hr : evParts E r with
      | none => simp [hx, hr] at h
      | some us =>
        simp only [hx, hr, Option.some.injEq] at h
        subst h
        simp [ha.ev hx, evParts_eval ha r us hr]
/-- A struct literal. -/
theorem PV_buildS {T : TypeId} {parts : Array (Nat × Operand)} {ps : List (Nat × Value)} {pl : List (Nat × Nat)} {z cs : List Value} {m : Nat} (ho : o.op = .build T parts) (hpl : PlacesOf P T pl) (hz : (P.info? T).map (fun i => (i.zero, i.size)) = some (some (aggL z), m))
    (hp : evParts E parts.toList = some ps) (hf : fillL pl z (ps.map fun x => (x.1, x.2.cells.toList)) = some cs) : PV P n o E S (aggL cs) := by
  refine PV_build ho fun a ha => ?_
  obtain ⟨fs, ht, hm⟩ := hpl
  cases hit : P.info? T with
  | none => simp [hit] at hz
  | some it =>
    simp only [hit, Option.map_some, Option.some.injEq, Prod.mk.injEq] at hz
    have hl : (parts.map fun (i, x) => (i, a.eval x)).toList = ps := by
      rw [Array.toList_map]
      exact evParts_eval ha _ _ hp
    unfold Program.built
    simp only [hit, ht, hz.1, hm, hl]
    exact fill_fillL pl ps z cs hf
/-- A part of a struct that is no variable. -/
theorem EF.mono {post post' : Value → World → Prop} (h : EF P n o E w post) (hp : ∀ r w', post r w' → post' r w') : EF P n o E w post' := fun a ha next Q hn => h a ha next Q fun v w' hv => hn v w' (hp v w' hv)

/-! ### Beside a Writer -/
variable {wb : Nat} {TT : TypeId} {l : List UInt8}
theorem Wr.drew (h : Wr G M I wb TT l w) : Wr G M I wb TT l w.drew := by
  obtain ⟨sl, L, ho, hs⟩ := h
  exact ⟨sl, L, ho, hs.drew⟩
theorem EF_W {f : Nat → Value} {cs : List Value} {T : TypeId} (h0 : Wr G M I wb TT l w) (h : ∀ M', Sat G M' I w → EF P n o E w (fun r w' => ∃ b, r = f b ∧ Sat G ((b, cs, T) :: M') I w')) : EF P n o E w (fun r w' => ∃ b, r = f b ∧ Wr G ((b, cs, T) :: M) I wb TT l w') := by
  obtain ⟨sl, L, ho, hs⟩ := h0
  refine (h _ hs).mono ?_
  rintro r w' ⟨b, hr, hs'⟩
  exact ⟨b, hr, Wr.in ho hs'⟩
theorem EF_WS {b : Nat} {T : TypeId} {cs cs' : List Value} (h0 : Wr G M I wb TT l w) (hu : Upd b T cs cs' M M') (h : ∀ M1 M2, Sat G M1 I w → Upd b T cs cs' M1 M2 → EF P n o E w (fun r w' => Sat G M2 I w')) : EF P n o E w (fun r w' => Wr G M' I wb TT l w') := by
  obtain ⟨sl, L, ho, hs⟩ := h0
  refine (h _ _ hs hu.there.app).mono ?_
  intro r w' hs'
  exact ⟨sl, L, ho, hs'⟩
theorem C56_1 {ab : Nat} {x : Int} {T : TypeId} (h0 : Wr G M I wb TT l w) (hm : (ab, [.int .i64 x], T) ∈ M) (hb : (l ++ nums [x]).length ≤ 2 ^ 40) : Calls Tryz.prog 56 #[ptr wb 0, .slice (some ⟨ab, 0, none⟩) 1 1] w (Ret fun r w' => r = .tuple #[] ∧ Wr G M I wb TT (l ++ nums [x]) w') := C56 (ns := [x]) h0 (SlM.own hm rfl (Nat.le_refl _)) hb
theorem C56_2 {ab : Nat} {x y : Int} {T : TypeId} (h0 : Wr G M I wb TT l w) (hm : (ab, [.int .i64 x, .int .i64 y], T) ∈ M) (hb : (l ++ nums [x, y]).length ≤ 2 ^ 40) : Calls Tryz.prog 56 #[ptr wb 0, .slice (some ⟨ab, 0, none⟩) 2 2] w (Ret fun r w' => r = .tuple #[] ∧ Wr G M I wb TT (l ++ nums [x, y]) w') := C56 (ns := [x, y]) h0 (SlM.own hm rfl (Nat.le_refl _)) hb
theorem C56_3 {ab : Nat} {x y z : Int} {T : TypeId} (h0 : Wr G M I wb TT l w) (hm : (ab, [.int .i64 x, .int .i64 y, .int .i64 z], T) ∈ M) (hb : (l ++ nums [x, y, z]).length ≤ 2 ^ 40) : Calls Tryz.prog 56 #[ptr wb 0, .slice (some ⟨ab, 0, none⟩) 3 3] w (Ret fun r w' => r = .tuple #[] ∧ Wr G M I wb TT (l ++ nums [x, y, z]) w') := C56 (ns := [x, y, z]) h0 (SlM.own hm rfl (Nat.le_refl _)) hb
end

theorem pl26 : PlacesOf Tryz.prog 26 [(0, 1), (1, 1), (2, 32), (34, 1), (35, 1), (36, 1)] := ⟨_, Tryz.underlying26, by kernel_rfl⟩
theorem pl39 : PlacesOf Tryz.prog 39 [(0, 1), (1, 1)] := ⟨_, Tryz.underlying39, by kernel_rfl⟩
theorem pl42 : PlacesOf Tryz.prog 42 [(0, 1), (1, 1), (2, 8)] := ⟨_, Tryz.underlying42, by kernel_rfl⟩
theorem pl45 : PlacesOf Tryz.prog 45 [(0, 1), (1, 1), (2, 1), (3, 32)] := ⟨_, Tryz.underlying45, by kernel_rfl⟩
theorem pl48 : PlacesOf Tryz.prog 48 [(0, 1), (1, 1), (2, 1)] := ⟨_, Tryz.underlying48, by kernel_rfl⟩
theorem pl51 : PlacesOf Tryz.prog 51 [(0, 10), (10, 1), (11, 35), (46, 3), (49, 1)] := ⟨_, Tryz.underlying51, by kernel_rfl⟩
theorem pl63 : PlacesOf Tryz.prog 63 [(0, 1), (1, 1)] := ⟨_, Tryz.underlying63, by kernel_rfl⟩
theorem pl65 : PlacesOf Tryz.prog 65 [(0, 1), (1, 2), (3, 2), (5, 1)] := ⟨_, Tryz.underlying65, by kernel_rfl⟩
theorem pl70 : PlacesOf Tryz.prog 70 [(0, 1), (1, 1), (2, 1), (3, 1), (4, 1)] := ⟨_, Tryz.underlying70, by kernel_rfl⟩
theorem pl78 : PlacesOf Tryz.prog 78 [(0, 32), (32, 2), (34, 1), (35, 10), (45, 10), (55, 1), (56, 1), (57, 6), (63, 1)] := ⟨_, Tryz.underlying78, by kernel_rfl⟩
theorem pl98 : PlacesOf Tryz.prog 98 [(0, 1), (1, 1)] := ⟨_, Tryz.underlying98, by kernel_rfl⟩
theorem pl112 : PlacesOf Tryz.prog 112 [(0, 32), (32, 1), (33, 1)] := ⟨_, Tryz.underlying112, by kernel_rfl⟩
theorem pl125 : PlacesOf Tryz.prog 125 [(0, 1)] := ⟨_, Tryz.underlying125, by kernel_rfl⟩
theorem pl129 : PlacesOf Tryz.prog 129 [(0, 1), (1, 1), (2, 1)] := ⟨_, Tryz.underlying129, by kernel_rfl⟩
theorem pl144 : PlacesOf Tryz.prog 144 [(0, 1), (1, 2), (3, 1), (4, 1)] := ⟨_, Tryz.underlying144, by kernel_rfl⟩
theorem pl177 : PlacesOf Tryz.prog 177 [(0, 32), (32, 1)] := ⟨_, Tryz.underlying177, by kernel_rfl⟩
theorem pl209 : PlacesOf Tryz.prog 209 [(0, 1), (1, 1)] := ⟨_, Tryz.underlying209, by kernel_rfl⟩
end Go.Proofs.YtecbpmgfikgoaaaGreatDoor
end
section
set_option linter.unusedVariables false
set_option linter.unusedSimpArgs false
set_option maxRecDepth 8000
set_option maxHeartbeats 4000000
namespace Go.Proofs.YtecbpmgfikgoaaaGreatDoor
open Go Go.RowKit
variable {G w : World} {M : List Chunk} {I : Imm}

def targetE (t : Tgt) : List UInt8 := rowB (sbytes t.name) ++ nums [t.size] ++ t.sum ++ rowB (sbytes t.hw) ++ nums [t.ctr] ++ rowB (sbytes t.ecu)
def pinE (s : ByteArray) (v : Int) : List UInt8 := rowB (sbytes s) ++ nums [v]
def keysE (h : List UInt8) : List UInt8 := nums [1] ++ h ++ nums [1]
def tgtsE (K : List Tgt) : List UInt8 := nums [(K.length : Int)] ++ K.flatMap targetE

theorem C66 {wb : Nat} {TT : TypeId} {l : List UInt8} {t : Tgt} (hs : Wr G M I wb TT l w) (hl : (l ++ targetE t).length ≤ 2 ^ 40) : Calls Tryz.prog 66 #[ptr wb 0, aggL (tcells t)] w (Ret fun r w' => r = .tuple #[] ∧ Wr G M I wb TT (l ++ targetE t) w') := by
  have he : l ++ targetE t = l ++ rowB (sbytes t.name) ++ nums [t.size] ++ t.sum ++ rowB (sbytes t.hw) ++ nums [t.ctr] ++ rowB (sbytes t.ecu) := by simp [targetE]
  rw [he] at hl ⊢
  refine enter2 Tryz.func66 rfl Tryz.ntmps66 rfl ?_
  repeat (first | refine W.seq ?_ | refine W.region ?_)
  refine RL.e rfl rfl rfl (EF_W hs (fun _ hs => (EF_boxA rfl rfl hs))) ?_
  rintro _ w1 ⟨b3, rfl, hs1⟩
  refine RL.done (nxt ?_)
  repeat (first | refine W.seq ?_ | refine W.region ?_)
  refine RL.p rfl rfl rfl (PV_move rfl rfl) ?_
  refine RL.p rfl rfl rfl (by first | exact PV_fieldAddr0 rfl rfl fa26_0 | exact PV_fieldAddr rfl rfl fa26_0) ?_
  refine RL.s rfl rfl rfl (PV_loadM1 rfl ag9 rfl (by first | exact m0 | exact m1 | exact m2 | exact m3 | exact m4 | exact m5 | exact mapp m0 | exact mapp m1 | exact mapp m2 | exact mapp m3 | exact hm | exact .tail _ hm | exact .tail _ (.tail _ hm)) (by first | exact w32_get (by omega) | exact wcells_get (by omega) | exact bc_get (by omega) | exact tc_34 | exact tc_35 | exact tc_36 | exact tc_0 | exact tc_1 | rfl)) hs1.sat ?_
  refine RL.e rfl rfl rfl (K2 rfl fn64 rfl rfl (C64 hs1 (by simp only [List.length_append] at hl ⊢; omega))) ?_
  rintro _ w2 ⟨rfl, hs2⟩
  refine RL.done (nxt ?_)
  repeat (first | refine W.seq ?_ | refine W.region ?_)
  refine W.drawsH hs2.sat [(0, true), (1, true), (2, true), (3, false), (4, false), (5, false), (6, false)] mixed (by kernel_rfl) (by kernel_rfl) ?_
  have hs3 := hs2.drew
  refine TW.p rfl rfl rfl rfl (PV_move rfl rfl) (hs3.sat) ?_
  refine TW.p rfl rfl rfl rfl (PV_nilCheckP rfl rfl) (hs3.sat) ?_
  refine TW.p rfl rfl rfl rfl (by first | exact PV_fieldAddr0 rfl rfl fa125_0 | exact PV_fieldAddr rfl rfl fa125_0) (hs3.sat) ?_
  refine TW.q rfl rfl rfl rfl (T := fun _ => True) (by first | exact PV_fieldAddr0 rfl rfl fa26_1 | exact PV_fieldAddr rfl rfl fa26_1) trivial (fun _ => (hs3.sat)) ?_
  refine TW.q rfl rfl rfl rfl (PV_loadM1 rfl ag3 rfl (by first | exact m0 | exact m1 | exact m2 | exact m3 | exact m4 | exact m5 | exact mapp m0 | exact mapp m1 | exact mapp m2 | exact mapp m3 | exact hm | exact .tail _ hm | exact .tail _ (.tail _ hm)) (by first | exact w32_get (by omega) | exact wcells_get (by omega) | exact bc_get (by omega) | exact tc_34 | exact tc_35 | exact tc_36 | exact tc_0 | exact tc_1 | rfl)) hs3.sat (fun _ => (hs3.sat)) ?_
  refine TW.e rfl rfl rfl rfl (EF_W hs3 (fun _ hs => (EF_bs1c rfl el178 rfl rfl hs))) ?_
  rintro _ w4 ⟨b13, rfl, hs4⟩
  refine ⟨(hs4.sat.tail), ?_⟩
  refine TW.e rfl rfl rfl rfl (K2 rfl fn56 rfl rfl (C56_1 hs4 m0 (by simp only [List.length_append] at hl ⊢; omega))) ?_
  rintro _ w5 ⟨rfl, hs5⟩
  refine ⟨(hs5.sat.tail), ?_⟩
  refine TW.done (nxt ?_)
  repeat (first | refine W.seq ?_ | refine W.region ?_)
  refine RL.p rfl rfl rfl (PV_move rfl rfl) ?_
  refine RL.p rfl rfl rfl (by first | exact PV_fieldAddr0 rfl rfl fa26_2 | exact PV_fieldAddr rfl rfl fa26_2) ?_
  refine RL.s rfl rfl rfl (PV_loadMA rfl ag24 sz24 rfl (by first | exact m0 | exact m1 | exact m2 | exact m3 | exact m4 | exact m5 | exact mapp m0 | exact mapp m1 | exact mapp m2 | exact mapp m3 | exact hm | exact .tail _ hm | exact .tail _ (.tail _ hm)) (by rw [length_tcells]; decide) tc_sum) hs5.sat ?_
  refine RL.e rfl rfl rfl (K2 rfl fn75 rfl rfl (C75 hs5 t.h (by simp only [List.length_append] at hl ⊢; omega))) ?_
  rintro _ w6 ⟨rfl, hs6⟩
  refine RL.done (nxt ?_)
  repeat (first | refine W.seq ?_ | refine W.region ?_)
  refine RL.p rfl rfl rfl (PV_move rfl rfl) ?_
  refine RL.p rfl rfl rfl (by first | exact PV_fieldAddr0 rfl rfl fa26_3 | exact PV_fieldAddr rfl rfl fa26_3) ?_
  refine RL.s rfl rfl rfl (PV_loadM1 rfl ag9 rfl (by first | exact m0 | exact m1 | exact m2 | exact m3 | exact m4 | exact m5 | exact mapp m0 | exact mapp m1 | exact mapp m2 | exact mapp m3 | exact hm | exact .tail _ hm | exact .tail _ (.tail _ hm)) (by first | exact w32_get (by omega) | exact wcells_get (by omega) | exact bc_get (by omega) | exact tc_34 | exact tc_35 | exact tc_36 | exact tc_0 | exact tc_1 | rfl)) hs6.sat ?_
  refine RL.e rfl rfl rfl (K2 rfl fn64 rfl rfl (C64 hs6 (by simp only [List.length_append] at hl ⊢; omega))) ?_
  rintro _ w7 ⟨rfl, hs7⟩
  refine RL.done (nxt ?_)
  repeat (first | refine W.seq ?_ | refine W.region ?_)
  refine W.drawsH hs7.sat [(0, true), (1, true), (2, true), (3, false), (4, false), (5, false), (6, false)] mixed (by kernel_rfl) (by kernel_rfl) ?_
  have hs8 := hs7.drew
  refine TW.p rfl rfl rfl rfl (PV_move rfl rfl) (hs8.sat) ?_
  refine TW.p rfl rfl rfl rfl (PV_nilCheckP rfl rfl) (hs8.sat) ?_
  refine TW.p rfl rfl rfl rfl (by first | exact PV_fieldAddr0 rfl rfl fa125_0 | exact PV_fieldAddr rfl rfl fa125_0) (hs8.sat) ?_
  refine TW.q rfl rfl rfl rfl (T := fun _ => True) (by first | exact PV_fieldAddr0 rfl rfl fa26_4 | exact PV_fieldAddr rfl rfl fa26_4) trivial (fun _ => (hs8.sat)) ?_
  refine TW.q rfl rfl rfl rfl (PV_loadM1 rfl ag3 rfl (by first | exact m0 | exact m1 | exact m2 | exact m3 | exact m4 | exact m5 | exact mapp m0 | exact mapp m1 | exact mapp m2 | exact mapp m3 | exact hm | exact .tail _ hm | exact .tail _ (.tail _ hm)) (by first | exact w32_get (by omega) | exact wcells_get (by omega) | exact bc_get (by omega) | exact tc_34 | exact tc_35 | exact tc_36 | exact tc_0 | exact tc_1 | rfl)) hs8.sat (fun _ => (hs8.sat)) ?_
  refine TW.e rfl rfl rfl rfl (EF_W hs8 (fun _ hs => (EF_bs1c rfl el178 rfl rfl hs))) ?_
  rintro _ w9 ⟨b28, rfl, hs9⟩
  refine ⟨(hs9.sat.tail), ?_⟩
  refine TW.e rfl rfl rfl rfl (K2 rfl fn56 rfl rfl (C56_1 hs9 m0 (by simp only [List.length_append] at hl ⊢; omega))) ?_
  rintro _ w10 ⟨rfl, hs10⟩
  refine ⟨(hs10.sat.tail), ?_⟩
  refine TW.done (nxt ?_)
  repeat (first | refine W.seq ?_ | refine W.region ?_)
  refine RL.p rfl rfl rfl (PV_move rfl rfl) ?_
  refine RL.p rfl rfl rfl (by first | exact PV_fieldAddr0 rfl rfl fa26_5 | exact PV_fieldAddr rfl rfl fa26_5) ?_
  refine RL.s rfl rfl rfl (PV_loadM1 rfl ag9 rfl (by first | exact m0 | exact m1 | exact m2 | exact m3 | exact m4 | exact m5 | exact mapp m0 | exact mapp m1 | exact mapp m2 | exact mapp m3 | exact hm | exact .tail _ hm | exact .tail _ (.tail _ hm)) (by first | exact w32_get (by omega) | exact wcells_get (by omega) | exact bc_get (by omega) | exact tc_34 | exact tc_35 | exact tc_36 | exact tc_0 | exact tc_1 | rfl)) hs10.sat ?_
  refine RL.e rfl rfl rfl (K2 rfl fn64 rfl rfl (C64 hs10 (by simp only [List.length_append] at hl ⊢; omega))) ?_
  rintro _ w11 ⟨rfl, hs11⟩
  exact RL.done (end_none rfl ⟨_, rfl, rfl, hs11.tail.tail.tail⟩)

theorem C72 {wb : Nat} {TT : TypeId} {l : List UInt8} {s : ByteArray} {v : Int} (hs : Wr G M I wb TT l w) (hl : (l ++ pinE s v).length ≤ 2 ^ 40) : Calls Tryz.prog 72 #[ptr wb 0, aggL [.string s, .int .i64 v]] w (Ret fun r w' => r = .tuple #[] ∧ Wr G M I wb TT (l ++ pinE s v) w') := by
  have he : l ++ pinE s v = l ++ rowB (sbytes s) ++ nums [v] := by simp [pinE]
  rw [he] at hl ⊢
  refine enter2 Tryz.func72 rfl Tryz.ntmps72 rfl ?_
  repeat (first | refine W.seq ?_ | refine W.region ?_)
  refine RL.e rfl rfl rfl (EF_W hs (fun _ hs => (EF_boxA rfl rfl hs))) ?_
  rintro _ w1 ⟨b3, rfl, hs1⟩
  refine RL.done (nxt ?_)
  repeat (first | refine W.seq ?_ | refine W.region ?_)
  refine RL.p rfl rfl rfl (PV_move rfl rfl) ?_
  refine RL.p rfl rfl rfl (by first | exact PV_fieldAddr0 rfl rfl fa98_0 | exact PV_fieldAddr rfl rfl fa98_0) ?_
  refine RL.s rfl rfl rfl (PV_loadM1 rfl ag9 rfl (by first | exact m0 | exact m1 | exact m2 | exact m3 | exact m4 | exact m5 | exact mapp m0 | exact mapp m1 | exact mapp m2 | exact mapp m3 | exact hm | exact .tail _ hm | exact .tail _ (.tail _ hm)) (by first | exact w32_get (by omega) | exact wcells_get (by omega) | exact bc_get (by omega) | exact tc_34 | exact tc_35 | exact tc_36 | exact tc_0 | exact tc_1 | rfl)) hs1.sat ?_
  refine RL.e rfl rfl rfl (K2 rfl fn64 rfl rfl (C64 hs1 (by simp only [List.length_append] at hl ⊢; omega))) ?_
  rintro _ w2 ⟨rfl, hs2⟩
  refine RL.done (nxt ?_)
  repeat (first | refine W.seq ?_ | refine W.region ?_)
  refine W.drawsH hs2.sat [(0, true), (1, true), (2, true), (3, false), (4, false), (5, false), (6, false)] mixed (by kernel_rfl) (by kernel_rfl) ?_
  have hs3 := hs2.drew
  refine TW.p rfl rfl rfl rfl (PV_move rfl rfl) (hs3.sat) ?_
  refine TW.p rfl rfl rfl rfl (PV_nilCheckP rfl rfl) (hs3.sat) ?_
  refine TW.p rfl rfl rfl rfl (by first | exact PV_fieldAddr0 rfl rfl fa125_0 | exact PV_fieldAddr rfl rfl fa125_0) (hs3.sat) ?_
  refine TW.q rfl rfl rfl rfl (T := fun _ => True) (by first | exact PV_fieldAddr0 rfl rfl fa98_1 | exact PV_fieldAddr rfl rfl fa98_1) trivial (fun _ => (hs3.sat)) ?_
  refine TW.q rfl rfl rfl rfl (PV_loadM1 rfl ag3 rfl (by first | exact m0 | exact m1 | exact m2 | exact m3 | exact m4 | exact m5 | exact mapp m0 | exact mapp m1 | exact mapp m2 | exact mapp m3 | exact hm | exact .tail _ hm | exact .tail _ (.tail _ hm)) (by first | exact w32_get (by omega) | exact wcells_get (by omega) | exact bc_get (by omega) | exact tc_34 | exact tc_35 | exact tc_36 | exact tc_0 | exact tc_1 | rfl)) hs3.sat (fun _ => (hs3.sat)) ?_
  refine TW.e rfl rfl rfl rfl (EF_W hs3 (fun _ hs => (EF_bs1c rfl el178 rfl rfl hs))) ?_
  rintro _ w4 ⟨b13, rfl, hs4⟩
  refine ⟨(hs4.sat.tail), ?_⟩
  refine TW.e rfl rfl rfl rfl (K2 rfl fn56 rfl rfl (C56_1 hs4 m0 (by simp only [List.length_append] at hl ⊢; omega))) ?_
  rintro _ w5 ⟨rfl, hs5⟩
  refine ⟨(hs5.sat.tail), ?_⟩
  exact TW.done (end_none rfl ⟨_, rfl, rfl, hs5.tail.tail⟩)

theorem C98 {wb : Nat} {TT : TypeId} {l : List UInt8} {v : Value} {h : List UInt8} (h32 : h.length = 32) (hv : SlM G M I 32 v 1 (bcells h)) (hs : Wr G M I wb TT l w) (hl : (l ++ (nums [1] ++ h)).length ≤ 2 ^ 40) : Calls Tryz.prog 98 #[ptr wb 0, .func (.func 75) #[] #[], v] w (Ret fun r w' => r = .tuple #[] ∧ Wr G M I wb TT (l ++ (nums [1] ++ h)) w') := by
  obtain ⟨bb, off, c, rfl, hc, hmem⟩ := hv.elem (by omega)
  have he : l ++ (nums [1] ++ h) = l ++ nums [1] ++ h := by simp
  rw [he] at hl ⊢
  refine enter3 Tryz.func98 rfl Tryz.ntmps98 rfl ?_
  repeat (first | refine W.seq ?_ | refine W.region ?_)
  refine RL.p rfl rfl rfl (PV_move rfl rfl) ?_
  refine RL.p rfl rfl rfl (PV_nilCheckP rfl rfl) ?_
  refine RL.p rfl rfl rfl (by first | exact PV_fieldAddr0 rfl rfl fa125_0 | exact PV_fieldAddr rfl rfl fa125_0) ?_
  refine RL.p rfl rfl rfl (PV_move rfl rfl) ?_
  refine RL.p rfl rfl rfl (PV_len rfl Tryz.underlying37 rfl) ?_
  refine RL.e rfl rfl rfl (EF_W hs (fun _ hs => (EF_bs1c rfl el178 rfl rfl hs))) ?_
  rintro _ w1 ⟨b13, rfl, hs1⟩
  refine RL.e rfl rfl rfl (K2 rfl fn56 rfl rfl (C56_1 (x := 1) hs1 m0 (by simp only [List.length_append] at hl ⊢; omega))) ?_
  rintro _ w2 ⟨rfl, hs2⟩
  refine RL.done (nxt ?_)
  repeat (first | refine W.seq ?_ | refine W.region ?_)
  refine RL.p rfl rfl rfl (PV_move rfl rfl) ?_
  refine RL.p rfl rfl rfl (PV_len rfl Tryz.underlying37 rfl) ?_
  refine RL.p rfl rfl rfl (PV_move rfl rfl) ?_
  refine RL.done (nxt ?_)
  repeat (first | refine W.seq ?_ | refine W.region ?_)
  refine W.block ?_
  repeat (first | refine W.seq ?_ | refine W.region ?_)
  refine W.loop (F := fun i : Nat => [(17, .int .i64 (i : Int)), (16, .int .i64 ((1 : Nat) : Int)), (15, .slice (some ⟨bb, off, none⟩) 1 c), (1, .func (.func 75) #[] #[]), (0, ptr wb 0)]) (J := fun i w => i ≤ 1 ∧ Wr G ((b13, [.int .i64 ((1 : Nat) : Int)], 3) :: M) I wb TT (if i = 0 then l ++ nums [1] else l ++ nums [1] ++ h) w) (m := fun i => 1 - i) 0 (by repeat first | exact Sub.nil | refine Sub.cons rfl ?_) ⟨by omega, hs2⟩ ?_
  rintro i w3 ⟨hi, hs3⟩
  repeat (first | refine W.seq ?_ | refine W.region ?_)
  refine RL.p rfl rfl rfl (PV_lss rfl rfl rfl) ?_
  refine RL.done (nxt ?_)
  repeat (first | refine W.seq ?_ | refine W.region ?_)
  refine W.cond rfl (fun h1 => ?_) (fun h1 => ?_)
  ·
    obtain rfl : i = 0 := by have := of_decide_eq_true h1; omega
    simp only [if_true] at hs3
    refine  W.skip (nxt ?_)
    repeat (first | refine W.seq ?_ | refine W.region ?_)
    refine W.block ?_
    repeat (first | refine W.seq ?_ | refine W.region ?_)
    refine RL.p rfl rfl rfl (PV_indexAddr (i := 0) rfl Tryz.underlying37 sz24 rfl rfl rfl (by omega)) ?_
    refine RL.s rfl rfl rfl (PV_loadMemA (j := 0 * 32) rfl ag24 sz24 rfl (fun _ h => h.tail) hmem (by simp [length_bcells, h32]) (part_whole (by simp [length_bcells, h32]))) hs3.sat ?_
    refine RL.e rfl rfl rfl (EF_W hs3 (fun _ hs => (EF_allocA rfl zr24 hs))) ?_
    rintro _ w4 ⟨b7, rfl, hs4⟩
    refine RL.e0 rfl rfl (EF_WS hs4 (by first | exact u0 | exact u1 | exact u2 | exact u3 | exact u4 | exact u5 | exact u0.app | exact u1.app | exact u2.app | exact u3.app) (fun _ _ hs hu => (EF_storeA (cs := zl24) rfl rfl rfl sz24 (by simp [length_bcells, h32]; rfl) (one1_bcells _) hs hu))) ?_
    rintro _ w5 hs5
    refine RL.done (nxt ?_)
    repeat (first | refine W.seq ?_ | refine W.region ?_)
    refine RL.p rfl rfl rfl (PV_move rfl rfl) ?_
    refine RL.p rfl rfl rfl (PV_move rfl rfl) ?_
    refine RL.s rfl rfl rfl (PV_loadMA rfl ag24 sz24 rfl (by first | exact m0 | exact m1 | exact m2 | exact m3 | exact m4 | exact m5 | exact mapp m0 | exact mapp m1 | exact mapp m2 | exact mapp m3 | exact hm | exact .tail _ hm | exact .tail _ (.tail _ hm)) (by simp [length_bcells, h32]) (part_whole (by simp [length_bcells, h32]))) hs5.sat ?_
    refine RL.e rfl rfl rfl (Kp2 rfl rfl fn75 rfl rfl (C75 hs5 h32 (by simp only [List.length_append] at hl ⊢; omega))) ?_
    rintro _ w6 ⟨rfl, hs6⟩
    refine RL.done (nxt ?_)
    repeat (first | refine W.seq ?_ | refine W.region ?_)
    refine RL.p rfl rfl rfl (PV_add rfl rfl rfl (by omega)) ?_
    refine RL.p rfl rfl rfl (PV_move rfl rfl) ?_
    refine RL.done (round_end (0 + 1) ?_ ?_ ?_)
    · repeat first | exact Sub.nil | refine Sub.cons rfl ?_
    · exact ⟨by omega, hs6.tail⟩
    · first | omega | (dsimp only; omega)
  repeat (first | refine W.seq ?_ | refine W.region ?_)
  exact W.exit (end_none rfl ⟨_, rfl, rfl, by rw [if_neg (by have := of_decide_eq_false h1; omega)] at hs3; exact hs3.tail⟩)

theorem C71 {wb : Nat} {TT : TypeId} {l : List UInt8} {v : Value} {s : ByteArray} {x : Int} (hv : SlM G M I 2 v 1 [.string s, .int .i64 x]) (hs : Wr G M I wb TT l w) (hl : (l ++ (nums [1] ++ pinE s x)).length ≤ 2 ^ 40) : Calls Tryz.prog 71 #[ptr wb 0, .func (.func 72) #[] #[], v] w (Ret fun r w' => r = .tuple #[] ∧ Wr G M I wb TT (l ++ (nums [1] ++ pinE s x)) w') := by
  obtain ⟨bb, off, c, rfl, hc, hmem⟩ := hv.elem (by omega)
  have he : l ++ (nums [1] ++ pinE s x) = l ++ nums [1] ++ pinE s x := by simp
  rw [he] at hl ⊢
  refine enter3 Tryz.func71 rfl Tryz.ntmps71 rfl ?_
  repeat (first | refine W.seq ?_ | refine W.region ?_)
  refine RL.p rfl rfl rfl (PV_move rfl rfl) ?_
  refine RL.p rfl rfl rfl (PV_nilCheckP rfl rfl) ?_
  refine RL.p rfl rfl rfl (by first | exact PV_fieldAddr0 rfl rfl fa125_0 | exact PV_fieldAddr rfl rfl fa125_0) ?_
  refine RL.p rfl rfl rfl (PV_move rfl rfl) ?_
  refine RL.p rfl rfl rfl (PV_len rfl Tryz.underlying46 rfl) ?_
  refine RL.e rfl rfl rfl (EF_W hs (fun _ hs => (EF_bs1c rfl el178 rfl rfl hs))) ?_
  rintro _ w1 ⟨b13, rfl, hs1⟩
  refine RL.e rfl rfl rfl (K2 rfl fn56 rfl rfl (C56_1 (x := 1) hs1 m0 (by simp only [List.length_append] at hl ⊢; omega))) ?_
  rintro _ w2 ⟨rfl, hs2⟩
  refine RL.done (nxt ?_)
  repeat (first | refine W.seq ?_ | refine W.region ?_)
  refine RL.p rfl rfl rfl (PV_move rfl rfl) ?_
  refine RL.p rfl rfl rfl (PV_len rfl Tryz.underlying46 rfl) ?_
  refine RL.p rfl rfl rfl (PV_move rfl rfl) ?_
  refine RL.done (nxt ?_)
  repeat (first | refine W.seq ?_ | refine W.region ?_)
  refine W.block ?_
  repeat (first | refine W.seq ?_ | refine W.region ?_)
  refine W.loop (F := fun i : Nat => [(17, .int .i64 (i : Int)), (16, .int .i64 ((1 : Nat) : Int)), (15, .slice (some ⟨bb, off, none⟩) 1 c), (1, .func (.func 72) #[] #[]), (0, ptr wb 0)]) (J := fun i w => i ≤ 1 ∧ Wr G ((b13, [.int .i64 ((1 : Nat) : Int)], 3) :: M) I wb TT (if i = 0 then l ++ nums [1] else l ++ nums [1] ++ pinE s x) w) (m := fun i => 1 - i) 0 (by repeat first | exact Sub.nil | refine Sub.cons rfl ?_) ⟨by omega, hs2⟩ ?_
  rintro i w3 ⟨hi, hs3⟩
  repeat (first | refine W.seq ?_ | refine W.region ?_)
  refine RL.p rfl rfl rfl (PV_lss rfl rfl rfl) ?_
  refine RL.done (nxt ?_)
  repeat (first | refine W.seq ?_ | refine W.region ?_)
  refine W.cond rfl (fun h1 => ?_) (fun h1 => ?_)
  ·
    obtain rfl : i = 0 := by have := of_decide_eq_true h1; omega
    simp only [if_true] at hs3
    refine  W.skip (nxt ?_)
    repeat (first | refine W.seq ?_ | refine W.region ?_)
    refine W.block ?_
    repeat (first | refine W.seq ?_ | refine W.region ?_)
    refine RL.p rfl rfl rfl (PV_indexAddr (i := 0) rfl Tryz.underlying46 sz98 rfl rfl rfl (by omega)) ?_
    refine RL.s rfl rfl rfl (PV_loadMemA (j := 0 * 2) rfl ag98 sz98 rfl (fun _ h => h.tail) hmem (by simp) (part_whole rfl)) hs3.sat ?_
    refine RL.e rfl rfl rfl (EF_W hs3 (fun _ hs => (EF_allocA rfl zr98 hs))) ?_
    rintro _ w4 ⟨b7, rfl, hs4⟩
    refine RL.e0 rfl rfl (EF_WS hs4 (by first | exact u0 | exact u1 | exact u2 | exact u3 | exact u4 | exact u5 | exact u0.app | exact u1.app | exact u2.app | exact u3.app) (fun _ _ hs hu => (EF_storeA (cs := zl98) rfl rfl rfl sz98 rfl rfl hs hu))) ?_
    rintro _ w5 hs5
    refine RL.done (nxt ?_)
    repeat (first | refine W.seq ?_ | refine W.region ?_)
    refine RL.p rfl rfl rfl (PV_move rfl rfl) ?_
    refine RL.p rfl rfl rfl (PV_move rfl rfl) ?_
    refine RL.s rfl rfl rfl (PV_loadMA rfl ag98 sz98 rfl (by first | exact m0 | exact m1 | exact m2 | exact m3 | exact m4 | exact m5 | exact mapp m0 | exact mapp m1 | exact mapp m2 | exact mapp m3 | exact hm | exact .tail _ hm | exact .tail _ (.tail _ hm)) (by simp) (part_whole rfl)) hs5.sat ?_
    refine RL.e rfl rfl rfl (Kp2 rfl rfl fn72 rfl rfl (C72 hs5 (by simp only [List.length_append] at hl ⊢; omega))) ?_
    rintro _ w6 ⟨rfl, hs6⟩
    refine RL.done (nxt ?_)
    repeat (first | refine W.seq ?_ | refine W.region ?_)
    refine RL.p rfl rfl rfl (PV_add rfl rfl rfl (by omega)) ?_
    refine RL.p rfl rfl rfl (PV_move rfl rfl) ?_
    refine RL.done (round_end (0 + 1) ?_ ?_ ?_)
    · repeat first | exact Sub.nil | refine Sub.cons rfl ?_
    · exact ⟨by omega, hs6.tail⟩
    · first | omega | (dsimp only; omega)
  repeat (first | refine W.seq ?_ | refine W.region ?_)
  exact W.exit (end_none rfl ⟨_, rfl, rfl, by rw [if_neg (by have := of_decide_eq_false h1; omega)] at hs3; exact hs3.tail⟩)

theorem C67 {wb : Nat} {TT : TypeId} {l : List UInt8} (hs : Wr G M I wb TT l w) (hl : (l ++ nums [0]).length ≤ 2 ^ 40) : Calls Tryz.prog 67 #[ptr wb 0, .func (.func 68) #[] #[], .slice none 0 0] w (Ret fun r w' => r = .tuple #[] ∧ Wr G M I wb TT (l ++ nums [0]) w') := by
  refine enter3 Tryz.func67 rfl Tryz.ntmps67 rfl ?_
  repeat (first | refine W.seq ?_ | refine W.region ?_)
  refine RL.p rfl rfl rfl (PV_move rfl rfl) ?_
  refine RL.p rfl rfl rfl (PV_nilCheckP rfl rfl) ?_
  refine RL.p rfl rfl rfl (by first | exact PV_fieldAddr0 rfl rfl fa125_0 | exact PV_fieldAddr rfl rfl fa125_0) ?_
  refine RL.p rfl rfl rfl (PV_move rfl rfl) ?_
  refine RL.p rfl rfl rfl (PV_len rfl Tryz.underlying68 rfl) ?_
  refine RL.e rfl rfl rfl (EF_W hs (fun _ hs => (EF_bs1c rfl el178 rfl rfl hs))) ?_
  rintro _ w1 ⟨b13, rfl, hs1⟩
  refine RL.e rfl rfl rfl (K2 rfl fn56 rfl rfl (C56_1 (x := 0) hs1 m0 (by simp only [List.length_append] at hl ⊢; omega))) ?_
  rintro _ w2 ⟨rfl, hs2⟩
  refine RL.done (nxt ?_)
  repeat (first | refine W.seq ?_ | refine W.region ?_)
  refine RL.p rfl rfl rfl (PV_move rfl rfl) ?_
  refine RL.p rfl rfl rfl (PV_len rfl Tryz.underlying68 rfl) ?_
  refine RL.p rfl rfl rfl (PV_move rfl rfl) ?_
  refine RL.done (nxt ?_)
  repeat (first | refine W.seq ?_ | refine W.region ?_)
  refine W.block ?_
  repeat (first | refine W.seq ?_ | refine W.region ?_)
  refine W.loop (F := fun _ : Unit => [(17, .int .i64 0), (16, .int .i64 ((0 : Nat) : Int))]) (J := fun _ w => Wr G ((b13, [.int .i64 0], 3) :: M) I wb TT (l ++ nums [0]) w) (m := fun _ => 0) () (by repeat first | exact Sub.nil | refine Sub.cons rfl ?_) hs2 ?_
  rintro _ w3 hs3
  repeat (first | refine W.seq ?_ | refine W.region ?_)
  refine RL.p rfl rfl rfl (PV_lss rfl rfl rfl) ?_
  refine RL.done (nxt ?_)
  repeat (first | refine W.seq ?_ | refine W.region ?_)
  refine W.cond rfl (fun h1 => ?_) (fun h1 => ?_)
  · exact absurd (of_decide_eq_true h1) (by omega)
  repeat (first | refine W.seq ?_ | refine W.region ?_)
  exact W.exit (end_none rfl ⟨_, rfl, rfl, hs3.tail⟩)

theorem C65 {wb : Nat} {TT : TypeId} {l : List UInt8} {v : Value} {K : List Tgt} (hv : SlM G M I 37 v K.length (lcells K)) (hs : Wr G M I wb TT l w) (hl : (l ++ tgtsE K).length ≤ 2 ^ 40) : Calls Tryz.prog 65 #[ptr wb 0, .func (.func 66) #[] #[], v] w (Ret fun r w' => r = .tuple #[] ∧ Wr G M I wb TT (l ++ tgtsE K) w') := by
  obtain ⟨A, c, rfl, hc⟩ := hv.shape
  have he : l ++ tgtsE K = l ++ nums [(K.length : Int)] ++ K.flatMap targetE := by simp [tgtsE]
  rw [he] at hl ⊢
  have hK : K.length ≤ 2 ^ 40 := by
    have : ∀ Q : List Tgt, Q.length ≤ (Q.flatMap targetE).length := by
      intro Q
      induction Q with
      | nil => simp
      | cons t Q ih => have := t.h; simp [targetE] at ih ⊢; omega
    have := this K
    simp only [List.length_append] at hl
    omega
  refine enter3 Tryz.func65 rfl Tryz.ntmps65 rfl ?_
  repeat (first | refine W.seq ?_ | refine W.region ?_)
  refine RL.p rfl rfl rfl (PV_move rfl rfl) ?_
  refine RL.p rfl rfl rfl (PV_nilCheckP rfl rfl) ?_
  refine RL.p rfl rfl rfl (by first | exact PV_fieldAddr0 rfl rfl fa125_0 | exact PV_fieldAddr rfl rfl fa125_0) ?_
  refine RL.p rfl rfl rfl (PV_move rfl rfl) ?_
  refine RL.p rfl rfl rfl (PV_len rfl Tryz.underlying22 rfl) ?_
  refine RL.e rfl rfl rfl (EF_W hs (fun _ hs => (EF_bs1c rfl el178 rfl rfl hs))) ?_
  rintro _ w1 ⟨b13, rfl, hs1⟩
  refine RL.e rfl rfl rfl (K2 rfl fn56 rfl rfl (C56_1 hs1 m0 (by simp only [List.length_append] at hl ⊢; omega))) ?_
  rintro _ w2 ⟨rfl, hs2⟩
  refine RL.done (nxt ?_)
  repeat (first | refine W.seq ?_ | refine W.region ?_)
  refine RL.p rfl rfl rfl (PV_move rfl rfl) ?_
  refine RL.p rfl rfl rfl (PV_len rfl Tryz.underlying22 rfl) ?_
  refine RL.p rfl rfl rfl (PV_move rfl rfl) ?_
  refine RL.done (nxt ?_)
  repeat (first | refine W.seq ?_ | refine W.region ?_)
  refine W.block ?_
  repeat (first | refine W.seq ?_ | refine W.region ?_)
  refine W.loop (F := fun i : Nat => [(17, .int .i64 (i : Int)), (16, .int .i64 (K.length : Int)), (15, .slice A K.length c), (1, .func (.func 66) #[] #[]), (0, ptr wb 0)]) (J := fun i w => i ≤ K.length ∧ Wr G ((b13, [.int .i64 (K.length : Int)], 3) :: M) I wb TT (l ++ nums [(K.length : Int)] ++ (K.take i).flatMap targetE) w) (m := fun i => K.length - i) 0 (by repeat first | exact Sub.nil | refine Sub.cons rfl ?_) ⟨by omega, by simpa using hs2⟩ ?_
  rintro i w3 ⟨hi, hs3⟩
  repeat (first | refine W.seq ?_ | refine W.region ?_)
  refine RL.p rfl rfl rfl (PV_lss rfl rfl rfl) ?_
  refine RL.done (nxt ?_)
  repeat (first | refine W.seq ?_ | refine W.region ?_)
  refine W.cond rfl (fun h1 => ?_) (fun h1 => ?_)
  ·
    have hi1 : i < K.length := by have := of_decide_eq_true h1; omega
    obtain ⟨bb, off, c', he', _, hmem⟩ := hv.elem (by omega)
    obtain ⟨rfl, rfl⟩ : A = some ⟨bb, off, none⟩ ∧ c = c' := by simpa using he'
    obtain ⟨t, ht⟩ : ∃ t, K[i]? = some t := ⟨_, List.getElem?_eq_getElem hi1⟩
    have hX : l ++ nums [(K.length : Int)] ++ (K.take (i + 1)).flatMap targetE = l ++ nums [(K.length : Int)] ++ (K.take i).flatMap targetE ++ targetE t := by
      rw [List.take_add_one, ht]
      simp
    have hXl : (l ++ nums [(K.length : Int)] ++ (K.take i).flatMap targetE ++ targetE t).length ≤ 2 ^ 40 := by
      rw [← hX]
      refine Nat.le_trans ?_ hl
      have h9 : K.flatMap targetE = (K.take (i + 1)).flatMap targetE ++ (K.drop (i + 1)).flatMap targetE := by rw [← List.flatMap_append, List.take_append_drop]
      rw [h9]
      simp only [List.length_append]
      omega
    refine  W.skip (nxt ?_)
    repeat (first | refine W.seq ?_ | refine W.region ?_)
    refine W.block ?_
    repeat (first | refine W.seq ?_ | refine W.region ?_)
    refine RL.p rfl rfl rfl (PV_indexAddr (i := i) rfl Tryz.underlying22 sz26 rfl rfl rfl (by omega)) ?_
    refine RL.s rfl rfl rfl (PV_loadMemA (j := i * 37) rfl ag26 sz26 rfl (fun _ h => h.tail) hmem (by rw [length_lcells]; omega) (part_lcells ht)) hs3.sat ?_
    refine RL.e rfl rfl rfl (EF_W hs3 (fun _ hs => (EF_allocA rfl zr26 hs))) ?_
    rintro _ w4 ⟨b7, rfl, hs4⟩
    refine RL.e0 rfl rfl (EF_WS hs4 (by first | exact u0 | exact u1 | exact u2 | exact u3 | exact u4 | exact u5 | exact u0.app | exact u1.app | exact u2.app | exact u3.app) (fun _ _ hs hu => (EF_storeA (cs := zl26) rfl rfl rfl sz26 (length_tcells t) (one1_tcells t) hs hu))) ?_
    rintro _ w5 hs5
    refine RL.done (nxt ?_)
    repeat (first | refine W.seq ?_ | refine W.region ?_)
    refine RL.p rfl rfl rfl (PV_move rfl rfl) ?_
    refine RL.p rfl rfl rfl (PV_move rfl rfl) ?_
    refine RL.s rfl rfl rfl (PV_loadMA rfl ag26 sz26 rfl (by first | exact m0 | exact m1 | exact m2 | exact m3 | exact m4 | exact m5 | exact mapp m0 | exact mapp m1 | exact mapp m2 | exact mapp m3 | exact hm | exact .tail _ hm | exact .tail _ (.tail _ hm)) (by rw [length_tcells]; decide) (part_whole (length_tcells t))) hs5.sat ?_
    refine RL.e rfl rfl rfl (Kp2 rfl rfl fn66 rfl rfl (C66 hs5 hXl)) ?_
    rintro _ w6 ⟨rfl, hs6⟩
    refine RL.done (nxt ?_)
    repeat (first | refine W.seq ?_ | refine W.region ?_)
    refine RL.p rfl rfl rfl (PV_add rfl rfl rfl (by omega)) ?_
    refine RL.p rfl rfl rfl (PV_move rfl rfl) ?_
    refine RL.done (round_end (i + 1) ?_ ?_ ?_)
    · repeat first | exact Sub.nil | refine Sub.cons rfl ?_
    · exact ⟨by omega, by rw [hX]; exact hs6.tail⟩
    · first | omega | (dsimp only; omega)
  repeat (first | refine W.seq ?_ | refine W.region ?_)
  exact W.exit (end_none rfl ⟨_, rfl, rfl, by have hii : i = K.length := (by have := of_decide_eq_false h1; omega); rw [hii, List.take_length] at hs3; exact hs3.tail⟩)

theorem C57 {wb : Nat} {TT : TypeId} {l : List UInt8} {v : Value} {h : List UInt8} (h32 : h.length = 32) (hv : SlM G M I 32 v 1 (bcells h)) (hs : Wr G M I wb TT l w) (hl : (l ++ keysE h).length ≤ 2 ^ 40) : Calls Tryz.prog 57 #[ptr wb 0, aggL [v, .int .i64 1]] w (Ret fun r w' => r = .tuple #[] ∧ Wr G M I wb TT (l ++ keysE h) w') := by
  have he : l ++ keysE h = l ++ (nums [1] ++ h) ++ nums [1] := by simp [keysE]
  rw [he] at hl ⊢
  refine enter2 Tryz.func57 rfl Tryz.ntmps57 rfl ?_
  repeat (first | refine W.seq ?_ | refine W.region ?_)
  refine RL.e rfl rfl rfl (EF_W hs (fun _ hs => (EF_boxA rfl rfl hs))) ?_
  rintro _ w1 ⟨b3, rfl, hs1⟩
  refine RL.done (nxt ?_)
  repeat (first | refine W.seq ?_ | refine W.region ?_)
  refine RL.p rfl rfl rfl (PV_move rfl rfl) ?_
  refine RL.p rfl rfl rfl (by first | exact PV_fieldAddr0 rfl rfl fa39_0 | exact PV_fieldAddr rfl rfl fa39_0) ?_
  refine RL.s rfl rfl rfl (PV_loadM1 rfl ag37 rfl (by first | exact m0 | exact m1 | exact m2 | exact m3 | exact m4 | exact m5 | exact mapp m0 | exact mapp m1 | exact mapp m2 | exact mapp m3 | exact hm | exact .tail _ hm | exact .tail _ (.tail _ hm)) (by first | exact w32_get (by omega) | exact wcells_get (by omega) | exact bc_get (by omega) | exact tc_34 | exact tc_35 | exact tc_36 | exact tc_0 | exact tc_1 | rfl)) hs1.sat ?_
  refine RL.e rfl rfl rfl (K3 rfl fn98 rfl rfl rfl (C98 h32 (hv.mono fun _ h => h.tail) hs1 (by simp only [List.length_append] at hl ⊢; omega))) ?_
  rintro _ w2 ⟨rfl, hs2⟩
  refine RL.done (nxt ?_)
  repeat (first | refine W.seq ?_ | refine W.region ?_)
  refine W.drawsH hs2.sat [(0, true), (1, true), (2, true), (3, false), (4, false), (5, false), (6, false)] mixed (by kernel_rfl) (by kernel_rfl) ?_
  have hs3 := hs2.drew
  refine TW.p rfl rfl rfl rfl (PV_move rfl rfl) (hs3.sat) ?_
  refine TW.p rfl rfl rfl rfl (PV_nilCheckP rfl rfl) (hs3.sat) ?_
  refine TW.p rfl rfl rfl rfl (by first | exact PV_fieldAddr0 rfl rfl fa125_0 | exact PV_fieldAddr rfl rfl fa125_0) (hs3.sat) ?_
  refine TW.q rfl rfl rfl rfl (T := fun _ => True) (by first | exact PV_fieldAddr0 rfl rfl fa39_1 | exact PV_fieldAddr rfl rfl fa39_1) trivial (fun _ => (hs3.sat)) ?_
  refine TW.q rfl rfl rfl rfl (PV_loadM1 rfl ag3 rfl (by first | exact m0 | exact m1 | exact m2 | exact m3 | exact m4 | exact m5 | exact mapp m0 | exact mapp m1 | exact mapp m2 | exact mapp m3 | exact hm | exact .tail _ hm | exact .tail _ (.tail _ hm)) (by first | exact w32_get (by omega) | exact wcells_get (by omega) | exact bc_get (by omega) | exact tc_34 | exact tc_35 | exact tc_36 | exact tc_0 | exact tc_1 | rfl)) hs3.sat (fun _ => (hs3.sat)) ?_
  refine TW.e rfl rfl rfl rfl (EF_W hs3 (fun _ hs => (EF_bs1c rfl el178 rfl rfl hs))) ?_
  rintro _ w4 ⟨b13, rfl, hs4⟩
  refine ⟨(hs4.sat.tail), ?_⟩
  refine TW.e rfl rfl rfl rfl (K2 rfl fn56 rfl rfl (C56_1 hs4 m0 (by simp only [List.length_append] at hl ⊢; omega))) ?_
  rintro _ w5 ⟨rfl, hs5⟩
  refine ⟨(hs5.sat.tail), ?_⟩
  exact TW.done (end_none rfl ⟨_, rfl, rfl, hs5.tail.tail⟩)

end Go.Proofs.YtecbpmgfikgoaaaGreatDoor
end
section
set_option linter.unusedVariables false
set_option linter.unusedSimpArgs false
set_option maxRecDepth 8000
set_option maxHeartbeats 4000000
namespace Go.Proofs.YtecbpmgfikgoaaaGreatDoor
open Go Go.RowKit
variable {G w : World} {M : List Chunk} {I : Imm}

def rroles (ks : Nat → Value) : List Value := [ks 0, .int .i64 1, ks 1, .int .i64 1, ks 2, .int .i64 1, ks 3, .int .i64 1]
def rcells (v e : Int) (ks : Nat → Value) : List Value := .int .i64 v :: .int .i64 e :: rroles ks
theorem rr_part {ks : Nat → Value} {i : Nat} (h : i < 4) : part (rroles ks) (i * 2) 2 = [ks i, .int .i64 1] := by
  match i, h with
  | 0, _ => rfl
  | 1, _ => rfl
  | 2, _ => rfl
  | 3, _ => rfl
def rolesE (hh : Nat → List UInt8) (i : Nat) : List UInt8 := (List.range i).flatMap fun j => keysE (hh j)
theorem rolesE_zero (hh : Nat → List UInt8) : rolesE hh 0 = [] := rfl
theorem rolesE_succ (hh : Nat → List UInt8) (i : Nat) : rolesE hh (i + 1) = rolesE hh i ++ keysE (hh i) := by simp [rolesE, List.range_succ]
theorem rolesE_le (hh : Nat → List UInt8) {i j : Nat} (h : i ≤ j) : (rolesE hh i).length ≤ (rolesE hh j).length := by
  induction j with
  | zero => obtain rfl : i = 0 := by omega
            exact Nat.le_refl _
  | succ j ih =>
    by_cases hij : i = j + 1
    · subst hij; exact Nat.le_refl _
    · rw [rolesE_succ, List.length_append]
      have := ih (by omega)
      omega
attribute [irreducible] rolesE
def rootE (v e : Int) (hh : Nat → List UInt8) : List UInt8 := nums [v, e] ++ rolesE hh 4
def targetsE (s : ByteArray) (v e : Int) (K : List Tgt) : List UInt8 := rowB (sbytes s) ++ nums [v, e] ++ tgtsE K ++ nums [0]
def snapE (v e : Int) (s : ByteArray) (x : Int) : List UInt8 := nums [v, e] ++ (nums [1] ++ pinE s x)
def timeE (v e sn : Int) (h : List UInt8) : List UInt8 := nums [v, e, sn] ++ h
theorem part_time {a b c : Value} {h : List UInt8} (h32 : h.length = 32) : part (a :: b :: c :: bcells h) 3 32 = bcells h := by
  simp only [part, List.drop_succ_cons, List.drop_zero]
  exact List.take_of_length_le (by simp [length_bcells, h32])

theorem C74 {wb : Nat} {TT : TypeId} {l : List UInt8} {tb : Nat} {v e sn : Int} {h : List UInt8} (h32 : h.length = 32) (hm : (tb, .int .i64 v :: .int .i64 e :: .int .i64 sn :: bcells h, 45) ∈ M) (hs : Wr G M I wb TT l w) (hl : (l ++ timeE v e sn h).length ≤ 2 ^ 40) : Calls Tryz.prog 74 #[ptr wb 0, ptr tb 0] w (Ret fun r w' => r = .tuple #[] ∧ Wr G M I wb TT (l ++ timeE v e sn h) w') := by
  have he : l ++ timeE v e sn h = l ++ nums [v, e, sn] ++ h := by simp [timeE]
  rw [he] at hl ⊢
  refine enter2 Tryz.func74 rfl Tryz.ntmps74 rfl ?_
  repeat (first | refine W.seq ?_ | refine W.region ?_)
  refine W.drawsH hs.sat [(0, true), (1, true), (2, true), (3, true), (4, true), (5, true), (6, true), (7, false), (8, false), (9, false), (10, false)] mixed (by kernel_rfl) (by kernel_rfl) ?_
  have hs1 := hs.drew
  refine TW.p rfl rfl rfl rfl (PV_move rfl rfl) (hs1.sat) ?_
  refine TW.p rfl rfl rfl rfl (PV_nilCheckP rfl rfl) (hs1.sat) ?_
  refine TW.p rfl rfl rfl rfl (by first | exact PV_fieldAddr0 rfl rfl fa125_0 | exact PV_fieldAddr rfl rfl fa125_0) (hs1.sat) ?_
  refine TW.p rfl rfl rfl rfl (by first | exact PV_fieldAddr0 rfl rfl fa45_0 | exact PV_fieldAddr rfl rfl fa45_0) (hs1.sat) ?_
  refine TW.s rfl rfl rfl rfl (PV_loadM1 rfl ag3 rfl (by first | exact m0 | exact m1 | exact m2 | exact m3 | exact m4 | exact m5 | exact mapp m0 | exact mapp m1 | exact mapp m2 | exact mapp m3 | exact hm | exact .tail _ hm | exact .tail _ (.tail _ hm)) (by first | exact w32_get (by omega) | exact wcells_get (by omega) | exact bc_get (by omega) | exact tc_34 | exact tc_35 | exact tc_36 | exact tc_0 | exact tc_1 | rfl)) (hs1.sat) ?_
  refine TW.p rfl rfl rfl rfl (by first | exact PV_fieldAddr0 rfl rfl fa45_1 | exact PV_fieldAddr rfl rfl fa45_1) (hs1.sat) ?_
  refine TW.s rfl rfl rfl rfl (PV_loadM1 rfl ag3 rfl (by first | exact m0 | exact m1 | exact m2 | exact m3 | exact m4 | exact m5 | exact mapp m0 | exact mapp m1 | exact mapp m2 | exact mapp m3 | exact hm | exact .tail _ hm | exact .tail _ (.tail _ hm)) (by first | exact w32_get (by omega) | exact wcells_get (by omega) | exact bc_get (by omega) | exact tc_34 | exact tc_35 | exact tc_36 | exact tc_0 | exact tc_1 | rfl)) (hs1.sat) ?_
  refine TW.q rfl rfl rfl rfl (T := fun _ => True) (by first | exact PV_fieldAddr0 rfl rfl fa45_2 | exact PV_fieldAddr rfl rfl fa45_2) trivial (fun _ => (hs1.sat)) ?_
  refine TW.q rfl rfl rfl rfl (PV_loadM1 rfl ag3 rfl (by first | exact m0 | exact m1 | exact m2 | exact m3 | exact m4 | exact m5 | exact mapp m0 | exact mapp m1 | exact mapp m2 | exact mapp m3 | exact hm | exact .tail _ hm | exact .tail _ (.tail _ hm)) (by first | exact w32_get (by omega) | exact wcells_get (by omega) | exact bc_get (by omega) | exact tc_34 | exact tc_35 | exact tc_36 | exact tc_0 | exact tc_1 | rfl)) hs1.sat (fun _ => (hs1.sat)) ?_
  refine TW.e rfl rfl rfl rfl (EF_W hs1 (fun _ hs => (EF_bs3c rfl el178 rfl rfl rfl rfl rfl rfl hs))) ?_
  rintro _ w2 ⟨b12, rfl, hs2⟩
  refine ⟨(hs2.sat.tail), ?_⟩
  refine TW.e rfl rfl rfl rfl (K2 rfl fn56 rfl rfl (C56_3 hs2 m0 (by simp only [List.length_append] at hl ⊢; omega))) ?_
  rintro _ w3 ⟨rfl, hs3⟩
  refine ⟨(hs3.sat.tail), ?_⟩
  refine TW.done (nxt ?_)
  repeat (first | refine W.seq ?_ | refine W.region ?_)
  refine RL.p rfl rfl rfl (PV_move rfl rfl) ?_
  refine RL.p rfl rfl rfl (by first | exact PV_fieldAddr0 rfl rfl fa45_3 | exact PV_fieldAddr rfl rfl fa45_3) ?_
  refine RL.s rfl rfl rfl (PV_loadMA rfl ag24 sz24 rfl (by first | exact m0 | exact m1 | exact m2 | exact m3 | exact m4 | exact m5 | exact mapp m0 | exact mapp m1 | exact mapp m2 | exact mapp m3 | exact hm | exact .tail _ hm | exact .tail _ (.tail _ hm)) (by simp [length_bcells, h32]) (part_time h32)) hs3.sat ?_
  refine RL.e rfl rfl rfl (K2 rfl fn75 rfl rfl (C75 hs3 h32 (by simp only [List.length_append] at hl ⊢; omega))) ?_
  rintro _ w4 ⟨rfl, hs4⟩
  exact RL.done (end_none rfl ⟨_, rfl, rfl, hs4.tail⟩)

theorem C70 {wb : Nat} {TT : TypeId} {l : List UInt8} {tb : Nat} {s : ByteArray} {v e x : Int} {pv : Value} (hm : (tb, [.int .i64 v, .int .i64 e, pv], 48) ∈ M) (hv : SlM G M I 2 pv 1 [.string s, .int .i64 x]) (hs : Wr G M I wb TT l w) (hl : (l ++ snapE v e s x).length ≤ 2 ^ 40) : Calls Tryz.prog 70 #[ptr wb 0, ptr tb 0] w (Ret fun r w' => r = .tuple #[] ∧ Wr G M I wb TT (l ++ snapE v e s x) w') := by
  have he : l ++ snapE v e s x = l ++ nums [v, e] ++ (nums [1] ++ pinE s x) := by simp [snapE]
  rw [he] at hl ⊢
  refine enter2 Tryz.func70 rfl Tryz.ntmps70 rfl ?_
  repeat (first | refine W.seq ?_ | refine W.region ?_)
  refine W.drawsH hs.sat [(0, true), (1, true), (2, true), (3, true), (4, true), (5, false), (6, false), (7, false), (8, false)] mixed (by kernel_rfl) (by kernel_rfl) ?_
  have hs1 := hs.drew
  refine TW.p rfl rfl rfl rfl (PV_move rfl rfl) (hs1.sat) ?_
  refine TW.p rfl rfl rfl rfl (PV_nilCheckP rfl rfl) (hs1.sat) ?_
  refine TW.p rfl rfl rfl rfl (by first | exact PV_fieldAddr0 rfl rfl fa125_0 | exact PV_fieldAddr rfl rfl fa125_0) (hs1.sat) ?_
  refine TW.p rfl rfl rfl rfl (by first | exact PV_fieldAddr0 rfl rfl fa48_0 | exact PV_fieldAddr rfl rfl fa48_0) (hs1.sat) ?_
  refine TW.s rfl rfl rfl rfl (PV_loadM1 rfl ag3 rfl (by first | exact m0 | exact m1 | exact m2 | exact m3 | exact m4 | exact m5 | exact mapp m0 | exact mapp m1 | exact mapp m2 | exact mapp m3 | exact hm | exact .tail _ hm | exact .tail _ (.tail _ hm)) (by first | exact w32_get (by omega) | exact wcells_get (by omega) | exact bc_get (by omega) | exact tc_34 | exact tc_35 | exact tc_36 | exact tc_0 | exact tc_1 | rfl)) (hs1.sat) ?_
  refine TW.q rfl rfl rfl rfl (T := fun _ => True) (by first | exact PV_fieldAddr0 rfl rfl fa48_1 | exact PV_fieldAddr rfl rfl fa48_1) trivial (fun _ => (hs1.sat)) ?_
  refine TW.q rfl rfl rfl rfl (PV_loadM1 rfl ag3 rfl (by first | exact m0 | exact m1 | exact m2 | exact m3 | exact m4 | exact m5 | exact mapp m0 | exact mapp m1 | exact mapp m2 | exact mapp m3 | exact hm | exact .tail _ hm | exact .tail _ (.tail _ hm)) (by first | exact w32_get (by omega) | exact wcells_get (by omega) | exact bc_get (by omega) | exact tc_34 | exact tc_35 | exact tc_36 | exact tc_0 | exact tc_1 | rfl)) hs1.sat (fun _ => (hs1.sat)) ?_
  refine TW.e rfl rfl rfl rfl (EF_W hs1 (fun _ hs => (EF_bs2c rfl el178 rfl rfl rfl rfl hs))) ?_
  rintro _ w2 ⟨b10, rfl, hs2⟩
  refine ⟨(hs2.sat.tail), ?_⟩
  refine TW.e rfl rfl rfl rfl (K2 rfl fn56 rfl rfl (C56_2 hs2 m0 (by simp only [List.length_append] at hl ⊢; omega))) ?_
  rintro _ w3 ⟨rfl, hs3⟩
  refine ⟨(hs3.sat.tail), ?_⟩
  refine TW.done (nxt ?_)
  repeat (first | refine W.seq ?_ | refine W.region ?_)
  refine RL.p rfl rfl rfl (PV_move rfl rfl) ?_
  refine RL.p rfl rfl rfl (by first | exact PV_fieldAddr0 rfl rfl fa48_2 | exact PV_fieldAddr rfl rfl fa48_2) ?_
  refine RL.s rfl rfl rfl (PV_loadM1 rfl ag46 rfl (by first | exact m0 | exact m1 | exact m2 | exact m3 | exact m4 | exact m5 | exact mapp m0 | exact mapp m1 | exact mapp m2 | exact mapp m3 | exact hm | exact .tail _ hm | exact .tail _ (.tail _ hm)) (by first | exact w32_get (by omega) | exact wcells_get (by omega) | exact bc_get (by omega) | exact tc_34 | exact tc_35 | exact tc_36 | exact tc_0 | exact tc_1 | rfl)) hs3.sat ?_
  refine RL.e rfl rfl rfl (K3 rfl fn71 rfl rfl rfl (C71 (hv.mono fun _ h => h.tail) hs3 (by simp only [List.length_append] at hl ⊢; omega))) ?_
  rintro _ w4 ⟨rfl, hs4⟩
  exact RL.done (end_none rfl ⟨_, rfl, rfl, hs4.tail⟩)

theorem C63 {wb : Nat} {TT : TypeId} {l : List UInt8} {tb : Nat} {s : ByteArray} {v e : Int} {lv : Value} {K : List Tgt} (hm : (tb, [.string s, .int .i64 v, .int .i64 e, lv, .slice none 0 0], 70) ∈ M) (hv : SlM G M I 37 lv K.length (lcells K)) (hs : Wr G M I wb TT l w) (hl : (l ++ targetsE s v e K).length ≤ 2 ^ 40) : Calls Tryz.prog 63 #[ptr wb 0, ptr tb 0] w (Ret fun r w' => r = .tuple #[] ∧ Wr G M I wb TT (l ++ targetsE s v e K) w') := by
  have he : l ++ targetsE s v e K = l ++ rowB (sbytes s) ++ nums [v, e] ++ tgtsE K ++ nums [0] := by simp [targetsE]
  rw [he] at hl ⊢
  refine enter2 Tryz.func63 rfl Tryz.ntmps63 rfl ?_
  repeat (first | refine W.seq ?_ | refine W.region ?_)
  refine RL.p rfl rfl rfl (PV_move rfl rfl) ?_
  refine RL.p rfl rfl rfl (by first | exact PV_fieldAddr0 rfl rfl fa70_0 | exact PV_fieldAddr rfl rfl fa70_0) ?_
  refine RL.s rfl rfl rfl (PV_loadM1 rfl ag9 rfl (by first | exact m0 | exact m1 | exact m2 | exact m3 | exact m4 | exact m5 | exact mapp m0 | exact mapp m1 | exact mapp m2 | exact mapp m3 | exact hm | exact .tail _ hm | exact .tail _ (.tail _ hm)) (by first | exact w32_get (by omega) | exact wcells_get (by omega) | exact bc_get (by omega) | exact tc_34 | exact tc_35 | exact tc_36 | exact tc_0 | exact tc_1 | rfl)) hs.sat ?_
  refine RL.e rfl rfl rfl (K2 rfl fn64 rfl rfl (C64 hs (by simp only [List.length_append] at hl ⊢; omega))) ?_
  rintro _ w1 ⟨rfl, hs1⟩
  refine RL.done (nxt ?_)
  repeat (first | refine W.seq ?_ | refine W.region ?_)
  refine W.drawsH hs1.sat [(0, true), (1, true), (2, true), (3, true), (4, true), (5, false), (6, false), (7, false), (8, false)] mixed (by kernel_rfl) (by kernel_rfl) ?_
  have hs2 := hs1.drew
  refine TW.p rfl rfl rfl rfl (PV_move rfl rfl) (hs2.sat) ?_
  refine TW.p rfl rfl rfl rfl (PV_nilCheckP rfl rfl) (hs2.sat) ?_
  refine TW.p rfl rfl rfl rfl (by first | exact PV_fieldAddr0 rfl rfl fa125_0 | exact PV_fieldAddr rfl rfl fa125_0) (hs2.sat) ?_
  refine TW.p rfl rfl rfl rfl (by first | exact PV_fieldAddr0 rfl rfl fa70_1 | exact PV_fieldAddr rfl rfl fa70_1) (hs2.sat) ?_
  refine TW.s rfl rfl rfl rfl (PV_loadM1 rfl ag3 rfl (by first | exact m0 | exact m1 | exact m2 | exact m3 | exact m4 | exact m5 | exact mapp m0 | exact mapp m1 | exact mapp m2 | exact mapp m3 | exact hm | exact .tail _ hm | exact .tail _ (.tail _ hm)) (by first | exact w32_get (by omega) | exact wcells_get (by omega) | exact bc_get (by omega) | exact tc_34 | exact tc_35 | exact tc_36 | exact tc_0 | exact tc_1 | rfl)) (hs2.sat) ?_
  refine TW.q rfl rfl rfl rfl (T := fun _ => True) (by first | exact PV_fieldAddr0 rfl rfl fa70_2 | exact PV_fieldAddr rfl rfl fa70_2) trivial (fun _ => (hs2.sat)) ?_
  refine TW.q rfl rfl rfl rfl (PV_loadM1 rfl ag3 rfl (by first | exact m0 | exact m1 | exact m2 | exact m3 | exact m4 | exact m5 | exact mapp m0 | exact mapp m1 | exact mapp m2 | exact mapp m3 | exact hm | exact .tail _ hm | exact .tail _ (.tail _ hm)) (by first | exact w32_get (by omega) | exact wcells_get (by omega) | exact bc_get (by omega) | exact tc_34 | exact tc_35 | exact tc_36 | exact tc_0 | exact tc_1 | rfl)) hs2.sat (fun _ => (hs2.sat)) ?_
  refine TW.e rfl rfl rfl rfl (EF_W hs2 (fun _ hs => (EF_bs2c rfl el178 rfl rfl rfl rfl hs))) ?_
  rintro _ w3 ⟨b14, rfl, hs3⟩
  refine ⟨(hs3.sat.tail), ?_⟩
  refine TW.e rfl rfl rfl rfl (K2 rfl fn56 rfl rfl (C56_2 hs3 m0 (by simp only [List.length_append] at hl ⊢; omega))) ?_
  rintro _ w4 ⟨rfl, hs4⟩
  refine ⟨(hs4.sat.tail), ?_⟩
  refine TW.done (nxt ?_)
  repeat (first | refine W.seq ?_ | refine W.region ?_)
  refine RL.p rfl rfl rfl (PV_move rfl rfl) ?_
  refine RL.p rfl rfl rfl (by first | exact PV_fieldAddr0 rfl rfl fa70_3 | exact PV_fieldAddr rfl rfl fa70_3) ?_
  refine RL.s rfl rfl rfl (PV_loadM1 rfl ag22 rfl (by first | exact m0 | exact m1 | exact m2 | exact m3 | exact m4 | exact m5 | exact mapp m0 | exact mapp m1 | exact mapp m2 | exact mapp m3 | exact hm | exact .tail _ hm | exact .tail _ (.tail _ hm)) (by first | exact w32_get (by omega) | exact wcells_get (by omega) | exact bc_get (by omega) | exact tc_34 | exact tc_35 | exact tc_36 | exact tc_0 | exact tc_1 | rfl)) hs4.sat ?_
  refine RL.e rfl rfl rfl (K3 rfl fn65 rfl rfl rfl (C65 (hv.mono fun _ h => h.tail) hs4 (by simp only [List.length_append] at hl ⊢; omega))) ?_
  rintro _ w5 ⟨rfl, hs5⟩
  refine RL.done (nxt ?_)
  repeat (first | refine W.seq ?_ | refine W.region ?_)
  refine RL.p rfl rfl rfl (PV_move rfl rfl) ?_
  refine RL.p rfl rfl rfl (by first | exact PV_fieldAddr0 rfl rfl fa70_4 | exact PV_fieldAddr rfl rfl fa70_4) ?_
  refine RL.s rfl rfl rfl (PV_loadM1 rfl ag68 rfl (by first | exact m0 | exact m1 | exact m2 | exact m3 | exact m4 | exact m5 | exact mapp m0 | exact mapp m1 | exact mapp m2 | exact mapp m3 | exact hm | exact .tail _ hm | exact .tail _ (.tail _ hm)) (by first | exact w32_get (by omega) | exact wcells_get (by omega) | exact bc_get (by omega) | exact tc_34 | exact tc_35 | exact tc_36 | exact tc_0 | exact tc_1 | rfl)) hs5.sat ?_
  refine RL.e rfl rfl rfl (K3 rfl fn67 rfl rfl rfl (C67 hs5 (by simp only [List.length_append] at hl ⊢; omega))) ?_
  rintro _ w6 ⟨rfl, hs6⟩
  exact RL.done (end_none rfl ⟨_, rfl, rfl, hs6.tail⟩)

theorem C55 {wb : Nat} {TT : TypeId} {l : List UInt8} {tb : Nat} {v e : Int} {ks : Nat → Value} {hh : Nat → List UInt8} (hm : (tb, rcells v e ks, 42) ∈ M) (h32 : ∀ j, j < 4 → (hh j).length = 32) (hk : ∀ j, j < 4 → SlM G M I 32 (ks j) 1 (bcells (hh j))) (hs : Wr G M I wb TT l w) (hl : (l ++ rootE v e hh).length ≤ 2 ^ 40) : Calls Tryz.prog 55 #[ptr wb 0, ptr tb 0] w (Ret fun r w' => r = .tuple #[] ∧ Wr G M I wb TT (l ++ rootE v e hh) w') := by
  have he : l ++ rootE v e hh = l ++ nums [v, e] ++ rolesE hh 4 := by simp [rootE]
  rw [he] at hl ⊢
  refine enter2 Tryz.func55 rfl Tryz.ntmps55 rfl ?_
  repeat (first | refine W.seq ?_ | refine W.region ?_)
  refine W.drawsH hs.sat [(0, true), (1, true), (2, true), (3, true), (4, true), (5, false), (6, false), (7, false), (8, false)] mixed (by kernel_rfl) (by kernel_rfl) ?_
  have hs1 := hs.drew
  refine TW.p rfl rfl rfl rfl (PV_move rfl rfl) (hs1.sat) ?_
  refine TW.p rfl rfl rfl rfl (PV_nilCheckP rfl rfl) (hs1.sat) ?_
  refine TW.p rfl rfl rfl rfl (by first | exact PV_fieldAddr0 rfl rfl fa125_0 | exact PV_fieldAddr rfl rfl fa125_0) (hs1.sat) ?_
  refine TW.p rfl rfl rfl rfl (by first | exact PV_fieldAddr0 rfl rfl fa42_0 | exact PV_fieldAddr rfl rfl fa42_0) (hs1.sat) ?_
  refine TW.s rfl rfl rfl rfl (PV_loadM1 rfl ag3 rfl (by first | exact m0 | exact m1 | exact m2 | exact m3 | exact m4 | exact m5 | exact mapp m0 | exact mapp m1 | exact mapp m2 | exact mapp m3 | exact hm | exact .tail _ hm | exact .tail _ (.tail _ hm)) (by first | exact w32_get (by omega) | exact wcells_get (by omega) | exact bc_get (by omega) | exact tc_34 | exact tc_35 | exact tc_36 | exact tc_0 | exact tc_1 | rfl)) (hs1.sat) ?_
  refine TW.q rfl rfl rfl rfl (T := fun _ => True) (by first | exact PV_fieldAddr0 rfl rfl fa42_1 | exact PV_fieldAddr rfl rfl fa42_1) trivial (fun _ => (hs1.sat)) ?_
  refine TW.q rfl rfl rfl rfl (PV_loadM1 rfl ag3 rfl (by first | exact m0 | exact m1 | exact m2 | exact m3 | exact m4 | exact m5 | exact mapp m0 | exact mapp m1 | exact mapp m2 | exact mapp m3 | exact hm | exact .tail _ hm | exact .tail _ (.tail _ hm)) (by first | exact w32_get (by omega) | exact wcells_get (by omega) | exact bc_get (by omega) | exact tc_34 | exact tc_35 | exact tc_36 | exact tc_0 | exact tc_1 | rfl)) hs1.sat (fun _ => (hs1.sat)) ?_
  refine TW.e rfl rfl rfl rfl (EF_W hs1 (fun _ hs => (EF_bs2c rfl el178 rfl rfl rfl rfl hs))) ?_
  rintro _ w2 ⟨b12, rfl, hs2⟩
  refine ⟨(hs2.sat.tail), ?_⟩
  refine TW.e rfl rfl rfl rfl (K2 rfl fn56 rfl rfl (C56_2 hs2 m0 (by simp only [List.length_append] at hl ⊢; omega))) ?_
  rintro _ w3 ⟨rfl, hs3⟩
  refine ⟨(hs3.sat.tail), ?_⟩
  refine TW.done (nxt ?_)
  repeat (first | refine W.seq ?_ | refine W.region ?_)
  refine RL.p rfl rfl rfl (by first | exact PV_fieldAddr0 rfl rfl fa42_2 | exact PV_fieldAddr rfl rfl fa42_2) ?_
  refine RL.s rfl rfl rfl (PV_loadMA rfl ag40 sz40 rfl (by first | exact m0 | exact m1 | exact m2 | exact m3 | exact m4 | exact m5 | exact mapp m0 | exact mapp m1 | exact mapp m2 | exact mapp m3 | exact hm | exact .tail _ hm | exact .tail _ (.tail _ hm)) (by simp [rcells, rroles]) (show part (rcells v e ks) 2 8 = rroles ks from rfl)) hs3.sat ?_
  refine RL.p rfl rfl rfl (PV_move rfl rfl) ?_
  refine RL.done (nxt ?_)
  repeat (first | refine W.seq ?_ | refine W.region ?_)
  refine W.block ?_
  repeat (first | refine W.seq ?_ | refine W.region ?_)
  refine W.loop (F := fun i : Nat => [(16, .int .i64 (i : Int)), (15, aggL (rroles ks)), (0, ptr wb 0)]) (J := fun i w => i ≤ 4 ∧ Wr G ((b12, [.int .i64 v, .int .i64 e], 3) :: M) I wb TT (l ++ nums [v, e] ++ rolesE hh i) w) (m := fun i => 4 - i) 0 (by repeat first | exact Sub.nil | refine Sub.cons rfl ?_) ⟨by omega, by rw [rolesE_zero]; simpa using hs3⟩ ?_
  rintro i w4 ⟨hi, hs4⟩
  repeat (first | refine W.seq ?_ | refine W.region ?_)
  refine RL.p rfl rfl rfl (PV_lss rfl rfl rfl) ?_
  refine RL.done (nxt ?_)
  repeat (first | refine W.seq ?_ | refine W.region ?_)
  refine W.cond rfl (fun h1 => ?_) (fun h1 => ?_)
  ·
    have hi1 : i < 4 := by have := of_decide_eq_true h1; omega
    have hX : (l ++ nums [v, e] ++ rolesE hh i ++ keysE (hh i)).length ≤ 2 ^ 40 := by
      have := rolesE_le hh (show i + 1 ≤ 4 by omega)
      rw [rolesE_succ] at this
      simp only [List.length_append] at hl this ⊢
      omega
    refine  W.skip (nxt ?_)
    repeat (first | refine W.seq ?_ | refine W.region ?_)
    refine W.block ?_
    repeat (first | refine W.seq ?_ | refine W.region ?_)
    refine RL.p rfl rfl rfl (PV_indexA (i := i) rfl Tryz.underlying40 sz39 ag39 rfl rfl rfl hi1 (rr_part hi1)) ?_
    refine RL.e rfl rfl rfl (EF_W hs4 (fun _ hs => (EF_allocA rfl zr39 hs))) ?_
    rintro _ w5 ⟨b4, rfl, hs5⟩
    refine RL.e0 rfl rfl (EF_WS hs5 (by first | exact u0 | exact u1 | exact u2 | exact u3 | exact u4 | exact u5 | exact u0.app | exact u1.app | exact u2.app | exact u3.app) (fun _ _ hs hu => (EF_storeA (cs := zl39) rfl rfl rfl sz39 rfl (by simp [one1_cons, one1_nil, (hk i hi1).cell]; rfl) hs hu))) ?_
    rintro _ w6 hs6
    refine RL.done (nxt ?_)
    repeat (first | refine W.seq ?_ | refine W.region ?_)
    refine RL.p rfl rfl rfl (PV_move rfl rfl) ?_
    refine RL.s rfl rfl rfl (PV_loadMA rfl ag39 sz39 rfl (by first | exact m0 | exact m1 | exact m2 | exact m3 | exact m4 | exact m5 | exact mapp m0 | exact mapp m1 | exact mapp m2 | exact mapp m3 | exact hm | exact .tail _ hm | exact .tail _ (.tail _ hm)) (by simp) (part_whole rfl)) hs6.sat ?_
    refine RL.e rfl rfl rfl (K2 rfl fn57 rfl rfl (C57 (h32 i hi1) ((hk i hi1).mono fun _ h => h.tail.tail) hs6 hX)) ?_
    rintro _ w7 ⟨rfl, hs7⟩
    refine RL.done (nxt ?_)
    repeat (first | refine W.seq ?_ | refine W.region ?_)
    refine RL.p rfl rfl rfl (PV_add rfl rfl rfl (by omega)) ?_
    refine RL.p rfl rfl rfl (PV_move rfl rfl) ?_
    refine RL.done (round_end (i + 1) ?_ ?_ ?_)
    · repeat first | exact Sub.nil | refine Sub.cons rfl ?_
    · exact ⟨by omega, by rw [rolesE_succ, ← List.append_assoc]; exact hs7.tail⟩
    · first | omega | (dsimp only; omega)
  repeat (first | refine W.seq ?_ | refine W.region ?_)
  exact W.exit (end_none rfl ⟨_, rfl, rfl, by obtain rfl : i = 4 := (by have := of_decide_eq_false h1; omega); exact hs4.tail⟩)

end Go.Proofs.YtecbpmgfikgoaaaGreatDoor
end
section
set_option linter.unusedVariables false
set_option linter.unusedSimpArgs false
set_option maxRecDepth 8000
set_option maxHeartbeats 4000000
namespace Go.Proofs.YtecbpmgfikgoaaaGreatDoor
open Go Go.RowKit
variable {G w : World} {M : List Chunk} {I : Imm}

def chkB (K : List Tgt) (i : Nat) : Bool := match K[i]? with
  | some t => targetB t && (match i with | 0 => true | j + 1 => match K[j]? with | some a => risesB a t | none => true)
  | none => true
def targetsB (s : ByteArray) (v e : Int) (K : List Tgt) : Bool := nameB s && (isVersionB v && (isNumB e && (decide (K.length ≤ 16) && (List.range K.length).all (chkB K))))
theorem all_step {f : Nat → Bool} {i : Nat} (h : (List.range i).all f = true) (hi : f i = true) : (List.range (i + 1)).all f = true := by
  rw [List.range_succ, List.all_append, h]
  simp [hi]
theorem all_no {f : Nat → Bool} {i n : Nat} (h : i < n) (hi : f i = false) : (List.range n).all f = false := by
  rw [List.all_eq_false]
  exact ⟨i, List.mem_range.2 h, by simp [hi]⟩

theorem C54 {v e : Int} {ks : Nat → Value} {hh : Nat → List UInt8} (h32 : ∀ j, j < 4 → (hh j).length = 32) (hk : ∀ j, j < 4 → SlM G M I 32 (ks j) 1 (bcells (hh j))) (hs : Sat G M I w) : Calls Tryz.prog 54 #[aggL (rcells v e ks)] w (Ret fun r w' => r = .bool (isVersionB v && isNumB e) ∧ Sat G M I w') := by
  refine enter1 Tryz.func54 rfl Tryz.ntmps54 rfl ?_
  repeat (first | refine W.seq ?_ | refine W.region ?_)
  refine RL.e rfl rfl rfl (EF_boxA rfl rfl hs) ?_
  rintro _ w1 ⟨b1, rfl, hs1⟩
  refine RL.p rfl rfl rfl (PV_assign rfl rfl) ?_
  refine RL.done (nxt ?_)
  repeat (first | refine W.seq ?_ | refine W.region ?_)
  refine RL.p rfl rfl rfl (by first | exact PV_fieldAddr0 rfl rfl fa42_2 | exact PV_fieldAddr rfl rfl fa42_2) ?_
  refine RL.s rfl rfl rfl (PV_loadMA rfl ag40 sz40 rfl (by first | exact m0 | exact m1 | exact m2 | exact m3 | exact m4 | exact m5 | exact mapp m0 | exact mapp m1 | exact mapp m2 | exact mapp m3 | exact hm | exact .tail _ hm | exact .tail _ (.tail _ hm)) (by simp [rcells, rroles]) (show part (rcells v e ks) 2 8 = rroles ks from rfl)) hs1 ?_
  refine RL.p rfl rfl rfl (PV_move rfl rfl) ?_
  refine RL.done (nxt ?_)
  repeat (first | refine W.seq ?_ | refine W.region ?_)
  refine W.block ?_
  repeat (first | refine W.seq ?_ | refine W.region ?_)
  refine W.loop (F := fun i : Nat => [(7, .int .i64 (i : Int)), (6, aggL (rroles ks)), (1, ptr b1 0)]) (J := fun i w => i ≤ 4 ∧ Sat G ((b1, rcells v e ks, 42) :: M) I w) (m := fun i => 4 - i) 0 (by repeat first | exact Sub.nil | refine Sub.cons rfl ?_) ⟨by omega, hs1⟩ ?_
  rintro i w2 ⟨hi, hs2⟩
  repeat (first | refine W.seq ?_ | refine W.region ?_)
  refine RL.p rfl rfl rfl (PV_lss rfl rfl rfl) ?_
  refine RL.done (nxt ?_)
  repeat (first | refine W.seq ?_ | refine W.region ?_)
  refine W.cond rfl (fun h1 => ?_) (fun h1 => ?_)
  ·
    have hi1 : i < 4 := by have := of_decide_eq_true h1; omega
    refine  W.skip (nxt ?_)
    repeat (first | refine W.seq ?_ | refine W.region ?_)
    refine W.block ?_
    repeat (first | refine W.seq ?_ | refine W.region ?_)
    refine RL.p rfl rfl rfl (PV_indexA (i := i) rfl Tryz.underlying40 sz39 ag39 rfl rfl rfl hi1 (rr_part hi1)) ?_
    refine RL.e rfl rfl rfl (EF_allocA rfl zr39 hs2) ?_
    rintro _ w3 ⟨b4, rfl, hs3⟩
    refine RL.e0 rfl rfl (EF_storeA (cs := zl39) rfl rfl rfl sz39 rfl (by simp [one1_cons, one1_nil, (hk i hi1).cell]; rfl) hs3 (by first | exact u0 | exact u1 | exact u2 | exact u3 | exact u4 | exact u5 | exact u0.app | exact u1.app | exact u2.app | exact u3.app)) ?_
    rintro _ w4 hs4
    refine RL.done (nxt ?_)
    repeat (first | refine W.seq ?_ | refine W.region ?_)
    refine RL.s rfl rfl rfl (PV_loadMA rfl ag39 sz39 rfl (by first | exact m0 | exact m1 | exact m2 | exact m3 | exact m4 | exact m5 | exact mapp m0 | exact mapp m1 | exact mapp m2 | exact mapp m3 | exact hm | exact .tail _ hm | exact .tail _ (.tail _ hm)) (by simp) (part_whole rfl)) hs4 ?_
    refine RL.e rfl rfl rfl (K1 rfl fn95 rfl (C95 (h32 i hi1) ((hk i hi1).mono fun _ h => h.tail.tail) hs4)) ?_
    rintro _ w5 ⟨rfl, hs5⟩
    refine RL.p rfl rfl rfl (PV_not rfl rfl) ?_
    refine RL.done (nxt ?_)
    repeat (first | refine W.seq ?_ | refine W.region ?_)
    refine W.cond rfl (fun h2 => ?_) (fun h2 => ?_)
    · cases h2
    refine W.skip (nxt ?_)
    repeat (first | refine W.seq ?_ | refine W.region ?_)
    refine RL.p rfl rfl rfl (PV_add rfl rfl rfl (by omega)) ?_
    refine RL.p rfl rfl rfl (PV_move rfl rfl) ?_
    refine RL.done (round_end (i + 1) ?_ ?_ ?_)
    · repeat first | exact Sub.nil | refine Sub.cons rfl ?_
    · exact ⟨by omega, hs5.tail⟩
    · first | omega | (dsimp only; omega)
  repeat (first | refine W.seq ?_ | refine W.region ?_)
  refine W.exit (nxt ?_)
  repeat (first | refine W.seq ?_ | refine W.region ?_)
  refine RL.p rfl rfl rfl (by first | exact PV_fieldAddr0 rfl rfl fa42_0 | exact PV_fieldAddr rfl rfl fa42_0) ?_
  refine RL.s rfl rfl rfl (PV_loadM1 rfl ag3 rfl (by first | exact m0 | exact m1 | exact m2 | exact m3 | exact m4 | exact m5 | exact mapp m0 | exact mapp m1 | exact mapp m2 | exact mapp m3 | exact hm | exact .tail _ hm | exact .tail _ (.tail _ hm)) (by first | exact w32_get (by omega) | exact wcells_get (by omega) | exact bc_get (by omega) | exact tc_34 | exact tc_35 | exact tc_36 | exact tc_0 | exact tc_1 | rfl)) hs2 ?_
  refine RL.e rfl rfl rfl (K1 rfl fn96 rfl (C96 hs2)) ?_
  rintro _ w3 ⟨rfl, hs3⟩
  refine RL.p rfl rfl rfl (PV_move rfl rfl) ?_
  refine RL.split 17 rfl (fun g1 => ?_) (fun g1 => ?_)
  ·
    refine RL.gp rfl rfl rfl rfl g1 rfl rfl rfl (by first | exact PV_fieldAddr0 rfl rfl fa42_1 | exact PV_fieldAddr rfl rfl fa42_1) ?_
    refine RL.gs rfl rfl rfl rfl g1 rfl rfl rfl (PV_loadM1 rfl ag3 rfl (by first | exact m0 | exact m1 | exact m2 | exact m3 | exact m4 | exact m5 | exact mapp m0 | exact mapp m1 | exact mapp m2 | exact mapp m3 | exact hm | exact .tail _ hm | exact .tail _ (.tail _ hm)) (by first | exact w32_get (by omega) | exact wcells_get (by omega) | exact bc_get (by omega) | exact tc_34 | exact tc_35 | exact tc_36 | exact tc_0 | exact tc_1 | rfl)) hs3 ?_
    refine RL.ge rfl rfl rfl rfl g1 rfl rfl rfl (K1 rfl fn97 rfl (C97 hs3)) ?_
    rintro _ w4 ⟨rfl, hs4⟩
    refine RL.p rfl rfl rfl (PV_pickT rfl rfl g1 rfl) ?_
    refine RL.p rfl rfl rfl (PV_assign rfl rfl) ?_
    refine RL.done (nxt ?_)
    repeat (first | refine W.seq ?_ | refine W.region ?_)
    exact W.ret (ret_tmp rfl rfl ⟨_, rfl, (by simp only [g1, Bool.true_and, Bool.false_and]), hs4.tail⟩)
  ·
    refine RL.gk rfl rfl rfl rfl g1 rfl rfl rfl ?_
    refine RL.gk rfl rfl rfl rfl g1 rfl rfl rfl ?_
    refine RL.gk rfl rfl rfl rfl g1 rfl rfl rfl ?_
    refine RL.p rfl rfl rfl (PV_pickF rfl rfl g1 rfl) ?_
    refine RL.p rfl rfl rfl (PV_assign rfl rfl) ?_
    refine RL.done (nxt ?_)
    repeat (first | refine W.seq ?_ | refine W.region ?_)
    exact W.ret (ret_tmp rfl rfl ⟨_, rfl, (by simp only [g1, Bool.true_and, Bool.false_and]), hs3.tail⟩)

theorem C73 {v e sn : Int} {h : List UInt8} (h32 : h.length = 32) (hs : Sat G M I w) : Calls Tryz.prog 73 #[aggL (.int .i64 v :: .int .i64 e :: .int .i64 sn :: bcells h)] w (Ret fun r w' => r = .bool (isVersionB v && (isNumB e && isVersionB sn)) ∧ Sat G M I w') := by
  refine enter1 Tryz.func73 rfl Tryz.ntmps73 rfl ?_
  repeat (first | refine W.seq ?_ | refine W.region ?_)
  refine RL.e rfl rfl rfl (EF_boxA rfl rfl hs) ?_
  rintro _ w1 ⟨b1, rfl, hs1⟩
  refine RL.p rfl rfl rfl (PV_assign rfl rfl) ?_
  refine RL.done (nxt ?_)
  repeat (first | refine W.seq ?_ | refine W.region ?_)
  refine RL.p rfl rfl rfl (by first | exact PV_fieldAddr0 rfl rfl fa45_0 | exact PV_fieldAddr rfl rfl fa45_0) ?_
  refine RL.s rfl rfl rfl (PV_loadM1 rfl ag3 rfl (by first | exact m0 | exact m1 | exact m2 | exact m3 | exact m4 | exact m5 | exact mapp m0 | exact mapp m1 | exact mapp m2 | exact mapp m3 | exact hm | exact .tail _ hm | exact .tail _ (.tail _ hm)) (by first | exact w32_get (by omega) | exact wcells_get (by omega) | exact bc_get (by omega) | exact tc_34 | exact tc_35 | exact tc_36 | exact tc_0 | exact tc_1 | rfl)) hs1 ?_
  refine RL.e rfl rfl rfl (K1 rfl fn96 rfl (C96 hs1)) ?_
  rintro _ w2 ⟨rfl, hs2⟩
  refine RL.p rfl rfl rfl (PV_move rfl rfl) ?_
  refine RL.split 6 rfl (fun g1 => ?_) (fun g1 => ?_)
  ·
    refine RL.gp rfl rfl rfl rfl g1 rfl rfl rfl (by first | exact PV_fieldAddr0 rfl rfl fa45_1 | exact PV_fieldAddr rfl rfl fa45_1) ?_
    refine RL.gs rfl rfl rfl rfl g1 rfl rfl rfl (PV_loadM1 rfl ag3 rfl (by first | exact m0 | exact m1 | exact m2 | exact m3 | exact m4 | exact m5 | exact mapp m0 | exact mapp m1 | exact mapp m2 | exact mapp m3 | exact hm | exact .tail _ hm | exact .tail _ (.tail _ hm)) (by first | exact w32_get (by omega) | exact wcells_get (by omega) | exact bc_get (by omega) | exact tc_34 | exact tc_35 | exact tc_36 | exact tc_0 | exact tc_1 | rfl)) hs2 ?_
    refine RL.ge rfl rfl rfl rfl g1 rfl rfl rfl (K1 rfl fn97 rfl (C97 hs2)) ?_
    rintro _ w3 ⟨rfl, hs3⟩
    refine RL.p rfl rfl rfl (PV_pickT rfl rfl g1 rfl) ?_
    refine RL.p rfl rfl rfl (PV_move rfl rfl) ?_
    refine RL.split 11 rfl (fun g2 => ?_) (fun g2 => ?_)
    ·
      refine RL.gp rfl rfl rfl rfl g2 rfl rfl rfl (by first | exact PV_fieldAddr0 rfl rfl fa45_2 | exact PV_fieldAddr rfl rfl fa45_2) ?_
      refine RL.gs rfl rfl rfl rfl g2 rfl rfl rfl (PV_loadM1 rfl ag3 rfl (by first | exact m0 | exact m1 | exact m2 | exact m3 | exact m4 | exact m5 | exact mapp m0 | exact mapp m1 | exact mapp m2 | exact mapp m3 | exact hm | exact .tail _ hm | exact .tail _ (.tail _ hm)) (by first | exact w32_get (by omega) | exact wcells_get (by omega) | exact bc_get (by omega) | exact tc_34 | exact tc_35 | exact tc_36 | exact tc_0 | exact tc_1 | rfl)) hs3 ?_
      refine RL.ge rfl rfl rfl rfl g2 rfl rfl rfl (K1 rfl fn96 rfl (C96 hs3)) ?_
      rintro _ w4 ⟨rfl, hs4⟩
      refine RL.p rfl rfl rfl (PV_pickT rfl rfl g2 rfl) ?_
      refine RL.p rfl rfl rfl (PV_assign rfl rfl) ?_
      refine RL.done (nxt ?_)
      repeat (first | refine W.seq ?_ | refine W.region ?_)
      exact W.ret (ret_tmp rfl rfl ⟨_, rfl, (by simp only [g1, g2, Bool.true_and, Bool.false_and]), hs4.tail⟩)
    ·
      refine RL.gk rfl rfl rfl rfl g2 rfl rfl rfl ?_
      refine RL.gk rfl rfl rfl rfl g2 rfl rfl rfl ?_
      refine RL.gk rfl rfl rfl rfl g2 rfl rfl rfl ?_
      refine RL.p rfl rfl rfl (PV_pickF rfl rfl g2 rfl) ?_
      refine RL.p rfl rfl rfl (PV_assign rfl rfl) ?_
      refine RL.done (nxt ?_)
      repeat (first | refine W.seq ?_ | refine W.region ?_)
      exact W.ret (ret_tmp rfl rfl ⟨_, rfl, (by simp only [g1, g2, Bool.true_and, Bool.false_and]), hs3.tail⟩)
  ·
    refine RL.gk rfl rfl rfl rfl g1 rfl rfl rfl ?_
    refine RL.gk rfl rfl rfl rfl g1 rfl rfl rfl ?_
    refine RL.gk rfl rfl rfl rfl g1 rfl rfl rfl ?_
    refine RL.p rfl rfl rfl (PV_pickF rfl rfl g1 rfl) ?_
    refine RL.p rfl rfl rfl (PV_move rfl rfl) ?_
    refine RL.gk rfl rfl rfl rfl rfl rfl rfl rfl ?_
    refine RL.gk rfl rfl rfl rfl rfl rfl rfl rfl ?_
    refine RL.gk rfl rfl rfl rfl rfl rfl rfl rfl ?_
    refine RL.p rfl rfl rfl (PV_pickF rfl rfl rfl rfl) ?_
    refine RL.p rfl rfl rfl (PV_assign rfl rfl) ?_
    refine RL.done (nxt ?_)
    repeat (first | refine W.seq ?_ | refine W.region ?_)
    exact W.ret (ret_tmp rfl rfl ⟨_, rfl, (by simp only [g1, Bool.true_and, Bool.false_and]), hs2.tail⟩)

theorem C69 {s : ByteArray} {v e x : Int} {pv : Value} (hsz : s.size ≤ 2 ^ 20) (hv : SlM G M I 2 pv 1 [.string s, .int .i64 x]) (hs : Sat G M I w) : Calls Tryz.prog 69 #[aggL [.int .i64 v, .int .i64 e, pv]] w (Ret fun r w' => r = .bool (nameB s && (isVersionB x && (isVersionB v && isNumB e))) ∧ Sat G M I w') := by
  obtain ⟨bb, off, c, rfl, hc, hmem⟩ := hv.elem (by omega)
  refine enter1 Tryz.func69 rfl Tryz.ntmps69 rfl ?_
  repeat (first | refine W.seq ?_ | refine W.region ?_)
  refine RL.e rfl rfl rfl (EF_boxA rfl rfl hs) ?_
  rintro _ w1 ⟨b1, rfl, hs1⟩
  refine RL.p rfl rfl rfl (PV_assign rfl rfl) ?_
  refine RL.done (nxt ?_)
  repeat (first | refine W.seq ?_ | refine W.region ?_)
  refine RL.p rfl rfl rfl (by first | exact PV_fieldAddr0 rfl rfl fa48_2 | exact PV_fieldAddr rfl rfl fa48_2) ?_
  refine RL.s rfl rfl rfl (PV_loadM1 rfl ag46 rfl (by first | exact m0 | exact m1 | exact m2 | exact m3 | exact m4 | exact m5 | exact mapp m0 | exact mapp m1 | exact mapp m2 | exact mapp m3 | exact hm | exact .tail _ hm | exact .tail _ (.tail _ hm)) (by first | exact w32_get (by omega) | exact wcells_get (by omega) | exact bc_get (by omega) | exact tc_34 | exact tc_35 | exact tc_36 | exact tc_0 | exact tc_1 | rfl)) hs1 ?_
  refine RL.p rfl rfl rfl (PV_len rfl Tryz.underlying46 rfl) ?_
  refine RL.p rfl rfl rfl (PV_move rfl rfl) ?_
  refine RL.done (nxt ?_)
  repeat (first | refine W.seq ?_ | refine W.region ?_)
  refine W.block ?_
  repeat (first | refine W.seq ?_ | refine W.region ?_)
  refine W.loop (F := fun i : Nat => [(8, .int .i64 (i : Int)), (7, .int .i64 ((1 : Nat) : Int)), (6, .slice (some ⟨bb, off, none⟩) 1 c), (1, ptr b1 0)]) (J := fun i w => i ≤ 1 ∧ (i = 1 → nameB s = true ∧ isVersionB x = true) ∧ Sat G ((b1, [.int .i64 v, .int .i64 e, .slice (some ⟨bb, off, none⟩) 1 c], 48) :: M) I w) (m := fun i => 1 - i) 0 (by repeat first | exact Sub.nil | refine Sub.cons rfl ?_) ⟨by omega, fun h => by omega, hs1⟩ ?_
  rintro i w2 ⟨hi, hfi, hs2⟩
  repeat (first | refine W.seq ?_ | refine W.region ?_)
  refine RL.p rfl rfl rfl (PV_lss rfl rfl rfl) ?_
  refine RL.done (nxt ?_)
  repeat (first | refine W.seq ?_ | refine W.region ?_)
  refine W.cond rfl (fun h1 => ?_) (fun h1 => ?_)
  ·
    obtain rfl : i = 0 := by have := of_decide_eq_true h1; omega
    refine  W.skip (nxt ?_)
    repeat (first | refine W.seq ?_ | refine W.region ?_)
    refine W.block ?_
    repeat (first | refine W.seq ?_ | refine W.region ?_)
    refine RL.p rfl rfl rfl (PV_move rfl rfl) ?_
    refine RL.p rfl rfl rfl (PV_indexAddr (i := 0) rfl Tryz.underlying46 sz98 rfl rfl rfl (by omega)) ?_
    refine RL.s rfl rfl rfl (PV_loadMemA (j := 0 * 2) rfl ag98 sz98 rfl (fun _ h => h.tail) hmem (by simp) (part_whole rfl)) hs2 ?_
    refine RL.e rfl rfl rfl (EF_allocA rfl zr98 hs2) ?_
    rintro _ w3 ⟨b4, rfl, hs3⟩
    refine RL.p rfl rfl rfl (PV_assign rfl rfl) ?_
    refine RL.e0 rfl rfl (EF_storeA (cs := zl98) rfl rfl rfl sz98 rfl rfl hs3 (by first | exact u0 | exact u1 | exact u2 | exact u3 | exact u4 | exact u5 | exact u0.app | exact u1.app | exact u2.app | exact u3.app)) ?_
    rintro _ w4 hs4
    refine RL.done (nxt ?_)
    repeat (first | refine W.seq ?_ | refine W.region ?_)
    refine W.drawsH hs4 [(0, false), (1, false), (2, false), (3, false), (4, false), (5, false), (6, false), (7, false), (8, false), (9, false), (10, false), (11, false), (12, false), (13, false), (14, true), (15, true), (16, true), (17, true), (18, true), (19, true), (20, true), (21, false), (22, false), (23, false), (24, false), (25, false)] mixed (by kernel_rfl) (by kernel_rfl) ?_
    have hs5 := hs4.drew
    refine TW.q rfl rfl rfl rfl (T := fun _ => True) (by first | exact PV_fieldAddr0 rfl rfl fa98_0 | exact PV_fieldAddr rfl rfl fa98_0) trivial (fun _ => hs5) ?_
    refine TW.q rfl rfl rfl rfl (PV_loadM1 rfl ag9 rfl (by first | exact m0 | exact m1 | exact m2 | exact m3 | exact m4 | exact m5 | exact mapp m0 | exact mapp m1 | exact mapp m2 | exact mapp m3 | exact hm | exact .tail _ hm | exact .tail _ (.tail _ hm)) (by first | exact w32_get (by omega) | exact wcells_get (by omega) | exact bc_get (by omega) | exact tc_34 | exact tc_35 | exact tc_36 | exact tc_0 | exact tc_1 | rfl)) hs5 (fun _ => hs5) ?_
    refine TW.e rfl rfl rfl rfl (K1 rfl fn104 rfl (C104 (by first | omega | (simp only [Tgt.ok] at hok; omega)) hs5)) ?_
    rintro _ w6 ⟨rfl, hs6⟩
    refine ⟨hs6, ?_⟩
    refine TW.q rfl rfl rfl rfl (T := fun _ => True) (PV_not rfl rfl) trivial (fun _ => hs6) ?_
    refine TW.q rfl rfl rfl rfl (T := fun _ => True) (PV_move rfl rfl) trivial (fun _ => hs6) ?_
    refine TW.split 17 rfl (fun g1 => ?_) (fun g1 => ?_)
    ·
      refine TW.gkf rfl rfl rfl rfl rfl g1 rfl rfl rfl hs6 ?_
      refine TW.gkf rfl rfl rfl rfl rfl g1 rfl rfl rfl hs6 ?_
      refine TW.gkf rfl rfl rfl rfl rfl g1 rfl rfl rfl hs6 ?_
      refine TW.gkf rfl rfl rfl rfl rfl g1 rfl rfl rfl hs6 ?_
      refine TW.q rfl rfl rfl rfl (T := fun _ => True) (PV_pickT rfl rfl g1 rfl) trivial (fun _ => hs6) ?_
      refine TW.q rfl rfl rfl rfl (T := fun _ => True) (PV_move rfl rfl) trivial (fun _ => hs6) ?_
      refine TW.gkf rfl rfl rfl rfl rfl rfl rfl rfl rfl hs6 ?_
      refine TW.gkf rfl rfl rfl rfl rfl rfl rfl rfl rfl hs6 ?_
      refine TW.gkf rfl rfl rfl rfl rfl rfl rfl rfl rfl hs6 ?_
      refine TW.gu rfl rfl rfl rfl rfl rfl rfl hs6 ?_
      refine TW.gu rfl rfl rfl rfl rfl rfl rfl hs6 ?_
      refine TW.gu rfl rfl rfl rfl rfl rfl rfl hs6 ?_
      refine TW.gu rfl rfl rfl rfl rfl rfl rfl hs6 ?_
      refine TW.gu rfl rfl rfl rfl rfl rfl rfl hs6 ?_
      refine TW.gu rfl rfl rfl rfl rfl rfl rfl hs6 ?_
      refine TW.gu rfl rfl rfl rfl rfl rfl rfl hs6 ?_
      refine TW.guf rfl rfl rfl rfl rfl rfl rfl hs6 ?_
      refine TW.guf rfl rfl rfl rfl rfl rfl rfl hs6 ?_
      refine TW.guf rfl rfl rfl rfl rfl rfl rfl hs6 ?_
      refine TW.gkf rfl rfl rfl rfl rfl rfl rfl rfl rfl hs6 ?_
      refine TW.q rfl rfl rfl rfl (T := fun _ => True) (PV_pickT rfl rfl rfl rfl) trivial (fun _ => hs6) ?_
      refine TW.done (nxt ?_)
      repeat (first | refine W.seq ?_ | refine W.region ?_)
      refine W.cond rfl (fun h2 => ?_) (fun h2 => ?_)
      rotate_left
      · cases h2
      repeat (first | refine W.seq ?_ | refine W.region ?_)
      refine RL.p rfl rfl rfl (PV_assign rfl rfl) ?_
      refine RL.done (nxt ?_)
      repeat (first | refine W.seq ?_ | refine W.region ?_)
      exact W.ret (ret_tmp rfl rfl ⟨_, rfl, (by simp only [Bool.not_eq_true'] at g1; rw [g1]; rfl), hs6.tail.tail⟩)
    refine TW.gq rfl rfl rfl rfl rfl g1 rfl rfl rfl (T := fun _ => True) (by first | exact PV_fieldAddr0 rfl rfl fa98_1 | exact PV_fieldAddr rfl rfl fa98_1) trivial (fun _ => hs6) ?_
    refine TW.gq rfl rfl rfl rfl rfl g1 rfl rfl rfl (PV_loadM1 rfl ag3 rfl (by first | exact m0 | exact m1 | exact m2 | exact m3 | exact m4 | exact m5 | exact mapp m0 | exact mapp m1 | exact mapp m2 | exact mapp m3 | exact hm | exact .tail _ hm | exact .tail _ (.tail _ hm)) (by first | exact w32_get (by omega) | exact wcells_get (by omega) | exact bc_get (by omega) | exact tc_34 | exact tc_35 | exact tc_36 | exact tc_0 | exact tc_1 | rfl)) hs6 (fun _ => hs6) ?_
    refine TW.ge rfl rfl rfl rfl rfl g1 rfl rfl rfl (K1 rfl fn96 rfl (C96 hs6)) ?_
    rintro _ w7 ⟨rfl, hs7⟩
    refine ⟨hs7, ?_⟩
    refine TW.gq rfl rfl rfl rfl rfl g1 rfl rfl rfl (T := fun _ => True) (PV_not rfl rfl) trivial (fun _ => hs7) ?_
    refine TW.q rfl rfl rfl rfl (T := fun _ => True) (PV_pickF rfl rfl g1 rfl) trivial (fun _ => hs7) ?_
    refine TW.q rfl rfl rfl rfl (T := fun _ => True) (PV_move rfl rfl) trivial (fun _ => hs7) ?_
    refine TW.split 23 rfl (fun g2 => ?_) (fun g2 => ?_)
    ·
      refine TW.gkf rfl rfl rfl rfl rfl g2 rfl rfl rfl hs7 ?_
      refine TW.gkf rfl rfl rfl rfl rfl g2 rfl rfl rfl hs7 ?_
      refine TW.gkf rfl rfl rfl rfl rfl g2 rfl rfl rfl hs7 ?_
      refine TW.gu rfl rfl rfl rfl rfl rfl rfl hs7 ?_
      refine TW.gu rfl rfl rfl rfl rfl rfl rfl hs7 ?_
      refine TW.gu rfl rfl rfl rfl rfl rfl rfl hs7 ?_
      refine TW.gu rfl rfl rfl rfl rfl rfl rfl hs7 ?_
      refine TW.gu rfl rfl rfl rfl rfl rfl rfl hs7 ?_
      refine TW.gu rfl rfl rfl rfl rfl rfl rfl hs7 ?_
      refine TW.gu rfl rfl rfl rfl rfl rfl rfl hs7 ?_
      refine TW.guf rfl rfl rfl rfl rfl rfl rfl hs7 ?_
      refine TW.guf rfl rfl rfl rfl rfl rfl rfl hs7 ?_
      refine TW.guf rfl rfl rfl rfl rfl rfl rfl hs7 ?_
      refine TW.gkf rfl rfl rfl rfl rfl g2 rfl rfl rfl hs7 ?_
      refine TW.q rfl rfl rfl rfl (T := fun _ => True) (PV_pickT rfl rfl g2 rfl) trivial (fun _ => hs7) ?_
      refine TW.done (nxt ?_)
      repeat (first | refine W.seq ?_ | refine W.region ?_)
      refine W.cond rfl (fun h2 => ?_) (fun h2 => ?_)
      rotate_left
      · cases h2
      repeat (first | refine W.seq ?_ | refine W.region ?_)
      refine RL.p rfl rfl rfl (PV_assign rfl rfl) ?_
      refine RL.done (nxt ?_)
      repeat (first | refine W.seq ?_ | refine W.region ?_)
      exact W.ret (ret_tmp rfl rfl ⟨_, rfl, (by simp only [Bool.not_eq_true'] at g2; rw [g2, Bool.false_and, Bool.and_false]), hs7.tail.tail⟩)
    refine TW.gq rfl rfl rfl rfl rfl g2 rfl rfl rfl (T := fun _ => True) (PV_move rfl rfl) trivial (fun _ => hs7) ?_
    refine TW.gq rfl rfl rfl rfl rfl g2 rfl rfl rfl (T := fun _ => True) (PV_gtr rfl rfl rfl) trivial (fun _ => hs7) ?_
    refine TW.gq rfl rfl rfl rfl rfl g2 rfl rfl rfl (T := fun _ => True) (PV_move rfl rfl) trivial (fun _ => hs7) ?_
    refine TW.split 26 rfl (fun g3 => by exact absurd (of_decide_eq_true g3) (by omega)) (fun g3 => ?_)
    refine TW.gk rfl rfl rfl rfl rfl g3 rfl rfl rfl hs7 ?_
    refine TW.gk rfl rfl rfl rfl rfl g3 rfl rfl rfl hs7 ?_
    refine TW.gk rfl rfl rfl rfl rfl g3 rfl rfl rfl hs7 ?_
    refine TW.gk rfl rfl rfl rfl rfl g3 rfl rfl rfl hs7 ?_
    refine TW.gk rfl rfl rfl rfl rfl g3 rfl rfl rfl hs7 ?_
    refine TW.gk rfl rfl rfl rfl rfl g3 rfl rfl rfl hs7 ?_
    refine TW.gk rfl rfl rfl rfl rfl g3 rfl rfl rfl hs7 ?_
    refine TW.gkf rfl rfl rfl rfl rfl g3 rfl rfl rfl hs7 ?_
    refine TW.gkf rfl rfl rfl rfl rfl g3 rfl rfl rfl hs7 ?_
    refine TW.gkf rfl rfl rfl rfl rfl g3 rfl rfl rfl hs7 ?_
    refine TW.gq rfl rfl rfl rfl rfl g2 rfl rfl rfl (T := fun _ => True) (PV_pickF rfl rfl g3 rfl) trivial (fun _ => hs7) ?_
    refine TW.q rfl rfl rfl rfl (T := fun _ => True) (PV_pickF rfl rfl g2 rfl) trivial (fun _ => hs7) ?_
    refine TW.done (nxt ?_)
    repeat (first | refine W.seq ?_ | refine W.region ?_)
    refine W.cond rfl (fun h2 => ?_) (fun h2 => ?_)
    · cases h2
    refine W.skip (nxt ?_)
    repeat (first | refine W.seq ?_ | refine W.region ?_)
    refine RL.p rfl rfl rfl (PV_add rfl rfl rfl (by omega)) ?_
    refine RL.p rfl rfl rfl (PV_move rfl rfl) ?_
    refine RL.done (round_end (0 + 1) ?_ ?_ ?_)
    · repeat first | exact Sub.nil | refine Sub.cons rfl ?_
    · exact ⟨by omega, fun _ => ⟨by simpa using g1, by simpa using g2⟩, hs7.tail⟩
    · first | omega | (dsimp only; omega)
  repeat (first | refine W.seq ?_ | refine W.region ?_)
  refine  W.exit (nxt ?_)
  obtain ⟨hn1, hn2⟩ := hfi (by have := of_decide_eq_false h1; omega)
  repeat (first | refine W.seq ?_ | refine W.region ?_)
  refine RL.p rfl rfl rfl (by first | exact PV_fieldAddr0 rfl rfl fa48_0 | exact PV_fieldAddr rfl rfl fa48_0) ?_
  refine RL.s rfl rfl rfl (PV_loadM1 rfl ag3 rfl (by first | exact m0 | exact m1 | exact m2 | exact m3 | exact m4 | exact m5 | exact mapp m0 | exact mapp m1 | exact mapp m2 | exact mapp m3 | exact hm | exact .tail _ hm | exact .tail _ (.tail _ hm)) (by first | exact w32_get (by omega) | exact wcells_get (by omega) | exact bc_get (by omega) | exact tc_34 | exact tc_35 | exact tc_36 | exact tc_0 | exact tc_1 | rfl)) hs2 ?_
  refine RL.e rfl rfl rfl (K1 rfl fn96 rfl (C96 hs2)) ?_
  rintro _ w3 ⟨rfl, hs3⟩
  refine RL.p rfl rfl rfl (PV_move rfl rfl) ?_
  refine RL.split 43 rfl (fun g4 => ?_) (fun g4 => ?_)
  ·
    refine RL.gp rfl rfl rfl rfl g4 rfl rfl rfl (by first | exact PV_fieldAddr0 rfl rfl fa48_1 | exact PV_fieldAddr rfl rfl fa48_1) ?_
    refine RL.gs rfl rfl rfl rfl g4 rfl rfl rfl (PV_loadM1 rfl ag3 rfl (by first | exact m0 | exact m1 | exact m2 | exact m3 | exact m4 | exact m5 | exact mapp m0 | exact mapp m1 | exact mapp m2 | exact mapp m3 | exact hm | exact .tail _ hm | exact .tail _ (.tail _ hm)) (by first | exact w32_get (by omega) | exact wcells_get (by omega) | exact bc_get (by omega) | exact tc_34 | exact tc_35 | exact tc_36 | exact tc_0 | exact tc_1 | rfl)) hs3 ?_
    refine RL.ge rfl rfl rfl rfl g4 rfl rfl rfl (K1 rfl fn97 rfl (C97 hs3)) ?_
    rintro _ w4 ⟨rfl, hs4⟩
    refine RL.p rfl rfl rfl (PV_pickT rfl rfl g4 rfl) ?_
    refine RL.p rfl rfl rfl (PV_move rfl rfl) ?_
    refine RL.split 48 rfl (fun g5 => ?_) (fun g5 => ?_)
    ·
      refine RL.gp rfl rfl rfl rfl g5 rfl rfl rfl (by first | exact PV_fieldAddr0 rfl rfl fa48_2 | exact PV_fieldAddr rfl rfl fa48_2) ?_
      refine RL.gs rfl rfl rfl rfl g5 rfl rfl rfl (PV_loadM1 rfl ag46 rfl (by first | exact m0 | exact m1 | exact m2 | exact m3 | exact m4 | exact m5 | exact mapp m0 | exact mapp m1 | exact mapp m2 | exact mapp m3 | exact hm | exact .tail _ hm | exact .tail _ (.tail _ hm)) (by first | exact w32_get (by omega) | exact wcells_get (by omega) | exact bc_get (by omega) | exact tc_34 | exact tc_35 | exact tc_36 | exact tc_0 | exact tc_1 | rfl)) hs4 ?_
      refine RL.gp rfl rfl rfl rfl g5 rfl rfl rfl (PV_len rfl Tryz.underlying46 rfl) ?_
      refine RL.gp rfl rfl rfl rfl g5 rfl rfl rfl (PV_leq rfl rfl rfl) ?_
      refine RL.p rfl rfl rfl (PV_pickT rfl rfl g5 rfl) ?_
      refine RL.p rfl rfl rfl (PV_assign rfl rfl) ?_
      refine RL.done (nxt ?_)
      repeat (first | refine W.seq ?_ | refine W.region ?_)
      exact W.ret (ret_tmp rfl rfl ⟨_, rfl, (by simp only [hn1, hn2, g4, g5, Bool.true_and, Bool.false_and]; rfl), hs4.tail⟩)
    ·
      refine RL.gk rfl rfl rfl rfl g5 rfl rfl rfl ?_
      refine RL.gk rfl rfl rfl rfl g5 rfl rfl rfl ?_
      refine RL.gk rfl rfl rfl rfl g5 rfl rfl rfl ?_
      refine RL.gk rfl rfl rfl rfl g5 rfl rfl rfl ?_
      refine RL.p rfl rfl rfl (PV_pickF rfl rfl g5 rfl) ?_
      refine RL.p rfl rfl rfl (PV_assign rfl rfl) ?_
      refine RL.done (nxt ?_)
      repeat (first | refine W.seq ?_ | refine W.region ?_)
      exact W.ret (ret_tmp rfl rfl ⟨_, rfl, (by simp only [hn1, hn2, g4, g5, Bool.true_and, Bool.false_and]), hs4.tail⟩)
  ·
    refine RL.gk rfl rfl rfl rfl g4 rfl rfl rfl ?_
    refine RL.gk rfl rfl rfl rfl g4 rfl rfl rfl ?_
    refine RL.gk rfl rfl rfl rfl g4 rfl rfl rfl ?_
    refine RL.p rfl rfl rfl (PV_pickF rfl rfl g4 rfl) ?_
    refine RL.p rfl rfl rfl (PV_move rfl rfl) ?_
    refine RL.gk rfl rfl rfl rfl rfl rfl rfl rfl ?_
    refine RL.gk rfl rfl rfl rfl rfl rfl rfl rfl ?_
    refine RL.gk rfl rfl rfl rfl rfl rfl rfl rfl ?_
    refine RL.gk rfl rfl rfl rfl rfl rfl rfl rfl ?_
    refine RL.p rfl rfl rfl (PV_pickF rfl rfl rfl rfl) ?_
    refine RL.p rfl rfl rfl (PV_assign rfl rfl) ?_
    refine RL.done (nxt ?_)
    repeat (first | refine W.seq ?_ | refine W.region ?_)
    exact W.ret (ret_tmp rfl rfl ⟨_, rfl, (by simp only [hn1, hn2, g4, Bool.true_and, Bool.false_and]), hs3.tail⟩)

end Go.Proofs.YtecbpmgfikgoaaaGreatDoor
end
section
set_option linter.unusedVariables false
set_option linter.unusedSimpArgs false
set_option maxRecDepth 8000
set_option maxHeartbeats 4000000
namespace Go.Proofs.YtecbpmgfikgoaaaGreatDoor
open Go Go.RowKit
variable {G w : World} {M : List Chunk} {I : Imm}

theorem chk_no {K : List Tgt} {i : Nat} {t : Tgt} (h : K[i]? = some t) (hf : targetB t = false) : chkB K i = false := by simp [chkB, h, hf]
theorem chk_zero {K : List Tgt} {i : Nat} {t : Tgt} (h : K[i]? = some t) (hf : targetB t = true) (hi : i = 0) : chkB K i = true := by subst hi; simp [chkB, h, hf]
theorem chk_pos {K : List Tgt} {i : Nat} {t a : Tgt} (h : K[i]? = some t) (h' : K[i - 1]? = some a) (hf : targetB t = true) (hi : 0 < i) : chkB K i = risesB a t := by
  obtain ⟨j, rfl⟩ : ∃ j, i = j + 1 := ⟨i - 1, by omega⟩
  simp only [Nat.add_sub_cancel] at h'
  simp [chkB, h, h', hf]

theorem C62 {s : ByteArray} {v e : Int} {lv : Value} {K : List Tgt} (hsz : s.size ≤ 2 ^ 20) (hK : K.length ≤ 2 ^ 40) (hok : ∀ t ∈ K, t.ok) (hv : SlM G M I 37 lv K.length (lcells K)) (hs : Sat G M I w) : Calls Tryz.prog 62 #[aggL [.string s, .int .i64 v, .int .i64 e, lv, .slice none 0 0]] w (Ret fun r w' => r = .bool (targetsB s v e K) ∧ Sat G M I w') := by
  obtain ⟨A, c, rfl, hc⟩ := hv.shape
  refine enter1 Tryz.func62 rfl Tryz.ntmps62 rfl ?_
  repeat (first | refine W.seq ?_ | refine W.region ?_)
  refine RL.e rfl rfl rfl (EF_boxA rfl rfl hs) ?_
  rintro _ w1 ⟨b1, rfl, hs1⟩
  refine RL.p rfl rfl rfl (PV_assign rfl rfl) ?_
  refine RL.done (nxt ?_)
  repeat (first | refine W.seq ?_ | refine W.region ?_)
  refine RL.p rfl rfl rfl (by first | exact PV_fieldAddr0 rfl rfl fa70_0 | exact PV_fieldAddr rfl rfl fa70_0) ?_
  refine RL.s rfl rfl rfl (PV_loadM1 rfl ag9 rfl (by first | exact m0 | exact m1 | exact m2 | exact m3 | exact m4 | exact m5 | exact mapp m0 | exact mapp m1 | exact mapp m2 | exact mapp m3 | exact hm | exact .tail _ hm | exact .tail _ (.tail _ hm)) (by first | exact w32_get (by omega) | exact wcells_get (by omega) | exact bc_get (by omega) | exact tc_34 | exact tc_35 | exact tc_36 | exact tc_0 | exact tc_1 | rfl)) hs1 ?_
  refine RL.e rfl rfl rfl (K1 rfl fn104 rfl (C104 (by first | omega | (simp only [Tgt.ok] at hok; omega)) hs1)) ?_
  rintro _ w2 ⟨rfl, hs2⟩
  refine RL.p rfl rfl rfl (PV_not rfl rfl) ?_
  refine RL.p rfl rfl rfl (PV_move rfl rfl) ?_
  refine RL.split 11 rfl (fun g1 => ?_) (fun g1 => ?_)
  ·
    refine RL.gk rfl rfl rfl rfl g1 rfl rfl rfl ?_
    refine RL.gk rfl rfl rfl rfl g1 rfl rfl rfl ?_
    refine RL.gk rfl rfl rfl rfl g1 rfl rfl rfl ?_
    refine RL.gk rfl rfl rfl rfl g1 rfl rfl rfl ?_
    refine RL.p rfl rfl rfl (PV_pickT rfl rfl g1 rfl) ?_
    refine RL.p rfl rfl rfl (PV_move rfl rfl) ?_
    refine RL.gk rfl rfl rfl rfl rfl rfl rfl rfl ?_
    refine RL.gk rfl rfl rfl rfl rfl rfl rfl rfl ?_
    refine RL.gk rfl rfl rfl rfl rfl rfl rfl rfl ?_
    refine RL.gk rfl rfl rfl rfl rfl rfl rfl rfl ?_
    refine RL.p rfl rfl rfl (PV_pickT rfl rfl rfl rfl) ?_
    refine RL.p rfl rfl rfl (PV_move rfl rfl) ?_
    refine RL.gk rfl rfl rfl rfl rfl rfl rfl rfl ?_
    refine RL.gk rfl rfl rfl rfl rfl rfl rfl rfl ?_
    refine RL.gk rfl rfl rfl rfl rfl rfl rfl rfl ?_
    refine RL.gk rfl rfl rfl rfl rfl rfl rfl rfl ?_
    refine RL.p rfl rfl rfl (PV_pickT rfl rfl rfl rfl) ?_
    refine RL.p rfl rfl rfl (PV_move rfl rfl) ?_
    refine RL.gk rfl rfl rfl rfl rfl rfl rfl rfl ?_
    refine RL.gk rfl rfl rfl rfl rfl rfl rfl rfl ?_
    refine RL.gk rfl rfl rfl rfl rfl rfl rfl rfl ?_
    refine RL.gk rfl rfl rfl rfl rfl rfl rfl rfl ?_
    refine RL.p rfl rfl rfl (PV_pickT rfl rfl rfl rfl) ?_
    refine RL.done (nxt ?_)
    repeat (first | refine W.seq ?_ | refine W.region ?_)
    refine W.cond rfl (fun h1 => ?_) (fun h1 => ?_)
    rotate_left
    · cases h1
    repeat (first | refine W.seq ?_ | refine W.region ?_)
    refine RL.p rfl rfl rfl (PV_assign rfl rfl) ?_
    refine RL.done (nxt ?_)
    repeat (first | refine W.seq ?_ | refine W.region ?_)
    exact W.ret (ret_tmp rfl rfl ⟨_, rfl, (by simp only [Bool.not_eq_true'] at g1; rw [targetsB, g1]; rfl), hs2.tail⟩)
  ·
    refine RL.gp rfl rfl rfl rfl g1 rfl rfl rfl (by first | exact PV_fieldAddr0 rfl rfl fa70_1 | exact PV_fieldAddr rfl rfl fa70_1) ?_
    refine RL.gs rfl rfl rfl rfl g1 rfl rfl rfl (PV_loadM1 rfl ag3 rfl (by first | exact m0 | exact m1 | exact m2 | exact m3 | exact m4 | exact m5 | exact mapp m0 | exact mapp m1 | exact mapp m2 | exact mapp m3 | exact hm | exact .tail _ hm | exact .tail _ (.tail _ hm)) (by first | exact w32_get (by omega) | exact wcells_get (by omega) | exact bc_get (by omega) | exact tc_34 | exact tc_35 | exact tc_36 | exact tc_0 | exact tc_1 | rfl)) hs2 ?_
    refine RL.ge rfl rfl rfl rfl g1 rfl rfl rfl (K1 rfl fn96 rfl (C96 hs2)) ?_
    rintro _ w3 ⟨rfl, hs3⟩
    refine RL.gp rfl rfl rfl rfl g1 rfl rfl rfl (PV_not rfl rfl) ?_
    refine RL.p rfl rfl rfl (PV_pickF rfl rfl g1 rfl) ?_
    refine RL.p rfl rfl rfl (PV_move rfl rfl) ?_
    refine RL.split 17 rfl (fun g2 => ?_) (fun g2 => ?_)
    ·
      refine RL.gk rfl rfl rfl rfl g2 rfl rfl rfl ?_
      refine RL.gk rfl rfl rfl rfl g2 rfl rfl rfl ?_
      refine RL.gk rfl rfl rfl rfl g2 rfl rfl rfl ?_
      refine RL.gk rfl rfl rfl rfl g2 rfl rfl rfl ?_
      refine RL.p rfl rfl rfl (PV_pickT rfl rfl g2 rfl) ?_
      refine RL.p rfl rfl rfl (PV_move rfl rfl) ?_
      refine RL.gk rfl rfl rfl rfl rfl rfl rfl rfl ?_
      refine RL.gk rfl rfl rfl rfl rfl rfl rfl rfl ?_
      refine RL.gk rfl rfl rfl rfl rfl rfl rfl rfl ?_
      refine RL.gk rfl rfl rfl rfl rfl rfl rfl rfl ?_
      refine RL.p rfl rfl rfl (PV_pickT rfl rfl rfl rfl) ?_
      refine RL.p rfl rfl rfl (PV_move rfl rfl) ?_
      refine RL.gk rfl rfl rfl rfl rfl rfl rfl rfl ?_
      refine RL.gk rfl rfl rfl rfl rfl rfl rfl rfl ?_
      refine RL.gk rfl rfl rfl rfl rfl rfl rfl rfl ?_
      refine RL.gk rfl rfl rfl rfl rfl rfl rfl rfl ?_
      refine RL.p rfl rfl rfl (PV_pickT rfl rfl rfl rfl) ?_
      refine RL.done (nxt ?_)
      repeat (first | refine W.seq ?_ | refine W.region ?_)
      refine W.cond rfl (fun h1 => ?_) (fun h1 => ?_)
      rotate_left
      · cases h1
      repeat (first | refine W.seq ?_ | refine W.region ?_)
      refine RL.p rfl rfl rfl (PV_assign rfl rfl) ?_
      refine RL.done (nxt ?_)
      repeat (first | refine W.seq ?_ | refine W.region ?_)
      exact W.ret (ret_tmp rfl rfl ⟨_, rfl, (by simp only [Bool.not_eq_true', Bool.not_eq_false'] at g1 g2; rw [targetsB, g1, g2]; rfl), hs3.tail⟩)
    ·
      refine RL.gp rfl rfl rfl rfl g2 rfl rfl rfl (by first | exact PV_fieldAddr0 rfl rfl fa70_2 | exact PV_fieldAddr rfl rfl fa70_2) ?_
      refine RL.gs rfl rfl rfl rfl g2 rfl rfl rfl (PV_loadM1 rfl ag3 rfl (by first | exact m0 | exact m1 | exact m2 | exact m3 | exact m4 | exact m5 | exact mapp m0 | exact mapp m1 | exact mapp m2 | exact mapp m3 | exact hm | exact .tail _ hm | exact .tail _ (.tail _ hm)) (by first | exact w32_get (by omega) | exact wcells_get (by omega) | exact bc_get (by omega) | exact tc_34 | exact tc_35 | exact tc_36 | exact tc_0 | exact tc_1 | rfl)) hs3 ?_
      refine RL.ge rfl rfl rfl rfl g2 rfl rfl rfl (K1 rfl fn97 rfl (C97 hs3)) ?_
      rintro _ w4 ⟨rfl, hs4⟩
      refine RL.gp rfl rfl rfl rfl g2 rfl rfl rfl (PV_not rfl rfl) ?_
      refine RL.p rfl rfl rfl (PV_pickF rfl rfl g2 rfl) ?_
      refine RL.p rfl rfl rfl (PV_move rfl rfl) ?_
      refine RL.split 23 rfl (fun g3 => ?_) (fun g3 => ?_)
      ·
        refine RL.gk rfl rfl rfl rfl g3 rfl rfl rfl ?_
        refine RL.gk rfl rfl rfl rfl g3 rfl rfl rfl ?_
        refine RL.gk rfl rfl rfl rfl g3 rfl rfl rfl ?_
        refine RL.gk rfl rfl rfl rfl g3 rfl rfl rfl ?_
        refine RL.p rfl rfl rfl (PV_pickT rfl rfl g3 rfl) ?_
        refine RL.p rfl rfl rfl (PV_move rfl rfl) ?_
        refine RL.gk rfl rfl rfl rfl rfl rfl rfl rfl ?_
        refine RL.gk rfl rfl rfl rfl rfl rfl rfl rfl ?_
        refine RL.gk rfl rfl rfl rfl rfl rfl rfl rfl ?_
        refine RL.gk rfl rfl rfl rfl rfl rfl rfl rfl ?_
        refine RL.p rfl rfl rfl (PV_pickT rfl rfl rfl rfl) ?_
        refine RL.done (nxt ?_)
        repeat (first | refine W.seq ?_ | refine W.region ?_)
        refine W.cond rfl (fun h1 => ?_) (fun h1 => ?_)
        rotate_left
        · cases h1
        repeat (first | refine W.seq ?_ | refine W.region ?_)
        refine RL.p rfl rfl rfl (PV_assign rfl rfl) ?_
        refine RL.done (nxt ?_)
        repeat (first | refine W.seq ?_ | refine W.region ?_)
        exact W.ret (ret_tmp rfl rfl ⟨_, rfl, (by simp only [Bool.not_eq_true', Bool.not_eq_false'] at g1 g2 g3; rw [targetsB, g1, g2, g3]; rfl), hs4.tail⟩)
      ·
        refine RL.gp rfl rfl rfl rfl g3 rfl rfl rfl (by first | exact PV_fieldAddr0 rfl rfl fa70_3 | exact PV_fieldAddr rfl rfl fa70_3) ?_
        refine RL.gs rfl rfl rfl rfl g3 rfl rfl rfl (PV_loadM1 rfl ag22 rfl (by first | exact m0 | exact m1 | exact m2 | exact m3 | exact m4 | exact m5 | exact mapp m0 | exact mapp m1 | exact mapp m2 | exact mapp m3 | exact hm | exact .tail _ hm | exact .tail _ (.tail _ hm)) (by first | exact w32_get (by omega) | exact wcells_get (by omega) | exact bc_get (by omega) | exact tc_34 | exact tc_35 | exact tc_36 | exact tc_0 | exact tc_1 | rfl)) hs4 ?_
        refine RL.gp rfl rfl rfl rfl g3 rfl rfl rfl (PV_len rfl Tryz.underlying22 rfl) ?_
        refine RL.gp rfl rfl rfl rfl g3 rfl rfl rfl (PV_gtr rfl rfl rfl) ?_
        refine RL.p rfl rfl rfl (PV_pickF rfl rfl g3 rfl) ?_
        refine RL.p rfl rfl rfl (PV_move rfl rfl) ?_
        refine RL.split 29 rfl (fun g4 => ?_) (fun g4 => ?_)
        ·
          refine RL.gk rfl rfl rfl rfl g4 rfl rfl rfl ?_
          refine RL.gk rfl rfl rfl rfl g4 rfl rfl rfl ?_
          refine RL.gk rfl rfl rfl rfl g4 rfl rfl rfl ?_
          refine RL.gk rfl rfl rfl rfl g4 rfl rfl rfl ?_
          refine RL.p rfl rfl rfl (PV_pickT rfl rfl g4 rfl) ?_
          refine RL.done (nxt ?_)
          repeat (first | refine W.seq ?_ | refine W.region ?_)
          refine W.cond rfl (fun h1 => ?_) (fun h1 => ?_)
          rotate_left
          · cases h1
          repeat (first | refine W.seq ?_ | refine W.region ?_)
          refine RL.p rfl rfl rfl (PV_assign rfl rfl) ?_
          refine RL.done (nxt ?_)
          repeat (first | refine W.seq ?_ | refine W.region ?_)
          exact W.ret (ret_tmp rfl rfl ⟨_, rfl, (by simp only [Bool.not_eq_true', Bool.not_eq_false'] at g1 g2 g3; rw [targetsB, g1, g2, g3, show decide (K.length ≤ 16) = false by have := of_decide_eq_true g4; simp; omega]; rfl), hs4.tail⟩)
        ·
          refine RL.gp rfl rfl rfl rfl g4 rfl rfl rfl (by first | exact PV_fieldAddr0 rfl rfl fa70_4 | exact PV_fieldAddr rfl rfl fa70_4) ?_
          refine RL.gs rfl rfl rfl rfl g4 rfl rfl rfl (PV_loadM1 rfl ag68 rfl (by first | exact m0 | exact m1 | exact m2 | exact m3 | exact m4 | exact m5 | exact mapp m0 | exact mapp m1 | exact mapp m2 | exact mapp m3 | exact hm | exact .tail _ hm | exact .tail _ (.tail _ hm)) (by first | exact w32_get (by omega) | exact wcells_get (by omega) | exact bc_get (by omega) | exact tc_34 | exact tc_35 | exact tc_36 | exact tc_0 | exact tc_1 | rfl)) hs4 ?_
          refine RL.gp rfl rfl rfl rfl g4 rfl rfl rfl (PV_len rfl Tryz.underlying68 rfl) ?_
          refine RL.gp rfl rfl rfl rfl g4 rfl rfl rfl (PV_gtr rfl rfl rfl) ?_
          refine RL.p rfl rfl rfl (PV_pickF rfl rfl g4 rfl) ?_
          refine RL.done (nxt ?_)
          repeat (first | refine W.seq ?_ | refine W.region ?_)
          refine W.cond rfl (fun h1 => ?_) (fun h1 => ?_)
          ·
            repeat (first | refine W.seq ?_ | refine W.region ?_)
            refine RL.p rfl rfl rfl (PV_assign rfl rfl) ?_
            refine RL.done (nxt ?_)
            repeat (first | refine W.seq ?_ | refine W.region ?_)
            exact W.ret (ret_tmp rfl rfl ⟨_, rfl, (by have := of_decide_eq_true h1; omega), hs4.tail⟩)
          refine W.skip (nxt ?_)
          repeat (first | refine W.seq ?_ | refine W.region ?_)
          refine RL.p rfl rfl rfl (by first | exact PV_fieldAddr0 rfl rfl fa70_3 | exact PV_fieldAddr rfl rfl fa70_3) ?_
          refine RL.s rfl rfl rfl (PV_loadM1 rfl ag22 rfl (by first | exact m0 | exact m1 | exact m2 | exact m3 | exact m4 | exact m5 | exact mapp m0 | exact mapp m1 | exact mapp m2 | exact mapp m3 | exact hm | exact .tail _ hm | exact .tail _ (.tail _ hm)) (by first | exact w32_get (by omega) | exact wcells_get (by omega) | exact bc_get (by omega) | exact tc_34 | exact tc_35 | exact tc_36 | exact tc_0 | exact tc_1 | rfl)) hs4 ?_
          refine RL.p rfl rfl rfl (PV_len rfl Tryz.underlying22 rfl) ?_
          refine RL.p rfl rfl rfl (PV_move rfl rfl) ?_
          refine RL.done (nxt ?_)
          repeat (first | refine W.seq ?_ | refine W.region ?_)
          refine W.block ?_
          repeat (first | refine W.seq ?_ | refine W.region ?_)
          refine W.loop (F := fun i : Nat => [(38, .int .i64 (i : Int)), (37, .int .i64 (K.length : Int)), (36, .slice A K.length c), (1, ptr b1 0)]) (J := fun i w => i ≤ K.length ∧ (List.range i).all (chkB K) = true ∧ Sat G ((b1, [.string s, .int .i64 v, .int .i64 e, .slice A K.length c, .slice none 0 0], 70) :: M) I w) (m := fun i => K.length - i) 0 (by repeat first | exact Sub.nil | refine Sub.cons rfl ?_) ⟨by omega, rfl, hs4⟩ ?_
          rintro i w5 ⟨hi, hall, hs5⟩
          repeat (first | refine W.seq ?_ | refine W.region ?_)
          refine RL.p rfl rfl rfl (PV_lss rfl rfl rfl) ?_
          refine RL.done (nxt ?_)
          repeat (first | refine W.seq ?_ | refine W.region ?_)
          refine W.cond rfl (fun h2 => ?_) (fun h2 => ?_)
          ·
            have hi1 : i < K.length := by have := of_decide_eq_true h2; omega
            obtain ⟨bb, off, c', he', _, hmem⟩ := hv.elem (by omega)
            obtain ⟨rfl, rfl⟩ : A = some ⟨bb, off, none⟩ ∧ c = c' := by simpa using he'
            obtain ⟨t, ht⟩ : ∃ t, K[i]? = some t := ⟨_, List.getElem?_eq_getElem hi1⟩
            refine  W.skip (nxt ?_)
            repeat (first | refine W.seq ?_ | refine W.region ?_)
            refine W.block ?_
            repeat (first | refine W.seq ?_ | refine W.region ?_)
            refine RL.p rfl rfl rfl (PV_move rfl rfl) ?_
            refine RL.p rfl rfl rfl (PV_indexAddr (i := i) rfl Tryz.underlying22 sz26 rfl rfl rfl (by omega)) ?_
            refine RL.s rfl rfl rfl (PV_loadMemA (j := i * 37) rfl ag26 sz26 rfl (fun _ h => h.tail) hmem (by rw [length_lcells]; omega) (part_lcells ht)) hs5 ?_
            refine RL.e rfl rfl rfl (EF_allocA rfl zr26 hs5) ?_
            rintro _ w6 ⟨b4, rfl, hs6⟩
            refine RL.p rfl rfl rfl (PV_assign rfl rfl) ?_
            refine RL.e0 rfl rfl (EF_storeA (cs := zl26) rfl rfl rfl sz26 (length_tcells t) (one1_tcells t) hs6 (by first | exact u0 | exact u1 | exact u2 | exact u3 | exact u4 | exact u5 | exact u0.app | exact u1.app | exact u2.app | exact u3.app)) ?_
            rintro _ w7 hs7
            refine RL.done (nxt ?_)
            repeat (first | refine W.seq ?_ | refine W.region ?_)
            refine W.cut (fun b : Bool => [(60, .bool b), (38, .int .i64 (i : Int)), (37, .int .i64 (K.length : Int)), (36, .slice (some ⟨bb, off, none⟩) K.length c), (1, ptr b1 0)]) (fun b w => b = !chkB K i ∧ Sat G ((b4, tcells t, 26) :: (b1, [.string s, .int .i64 v, .int .i64 e, .slice (some ⟨bb, off, none⟩) K.length c, .slice none 0 0], 70) :: M) I w) ?_ ?_
            ·
              refine W.drawsH hs7 [(0, false), (1, false), (2, false), (3, false), (4, false), (5, false), (6, false), (7, true), (8, true), (9, true), (10, true), (11, true), (12, true), (13, false), (14, false), (15, false), (16, false), (17, false)] mixed (by kernel_rfl) (by kernel_rfl) ?_
              have hs8 := hs7.drew
              refine TW.q rfl rfl rfl rfl (PV_loadMA rfl ag26 sz26 rfl (by first | exact m0 | exact m1 | exact m2 | exact m3 | exact m4 | exact m5 | exact mapp m0 | exact mapp m1 | exact mapp m2 | exact mapp m3 | exact hm | exact .tail _ hm | exact .tail _ (.tail _ hm)) (by rw [length_tcells]; decide) (part_whole (length_tcells t))) hs8 (fun _ => hs8) ?_
              refine TW.e rfl rfl rfl rfl (K1 rfl fn105 rfl (C105 (hok t (List.mem_of_getElem? ht)) hs8)) ?_
              rintro _ w9 ⟨rfl, hs9⟩
              refine ⟨hs9, ?_⟩
              refine TW.q rfl rfl rfl rfl (T := fun _ => True) (PV_not rfl rfl) trivial (fun _ => hs9) ?_
              refine TW.q rfl rfl rfl rfl (T := fun _ => True) (PV_move rfl rfl) trivial (fun _ => hs9) ?_
              refine TW.split 46 rfl (fun g5 => ?_) (fun g5 => ?_)
              ·
                refine TW.gkf rfl rfl rfl rfl rfl g5 rfl rfl rfl hs9 ?_
                refine TW.gkf rfl rfl rfl rfl rfl g5 rfl rfl rfl hs9 ?_
                refine TW.gkf rfl rfl rfl rfl rfl g5 rfl rfl rfl hs9 ?_
                refine TW.gu rfl rfl rfl rfl rfl rfl rfl hs9 ?_
                refine TW.gu rfl rfl rfl rfl rfl rfl rfl hs9 ?_
                refine TW.gu rfl rfl rfl rfl rfl rfl rfl hs9 ?_
                refine TW.gu rfl rfl rfl rfl rfl rfl rfl hs9 ?_
                refine TW.gu rfl rfl rfl rfl rfl rfl rfl hs9 ?_
                refine TW.gu rfl rfl rfl rfl rfl rfl rfl hs9 ?_
                refine TW.guf rfl rfl rfl rfl rfl rfl rfl hs9 ?_
                refine TW.guf rfl rfl rfl rfl rfl rfl rfl hs9 ?_
                refine TW.guf rfl rfl rfl rfl rfl rfl rfl hs9 ?_
                refine TW.gkf rfl rfl rfl rfl rfl g5 rfl rfl rfl hs9 ?_
                refine TW.q rfl rfl rfl rfl (T := fun _ => True) (PV_pickT rfl rfl g5 rfl) trivial (fun _ => hs9) ?_
                refine TW.done (cut_end (F := (fun b : Bool => [(60, .bool b), (38, .int .i64 (i : Int)), (37, .int .i64 (K.length : Int)), (36, .slice (some ⟨bb, off, none⟩) K.length c), (1, ptr b1 0)])) (J := (fun b w => b = !chkB K i ∧ Sat G ((b4, tcells t, 26) :: (b1, [.string s, .int .i64 v, .int .i64 e, .slice (some ⟨bb, off, none⟩) K.length c, .slice none 0 0], 70) :: M) I w)) true ?_ ?_)
                · repeat first | exact Sub.nil | refine Sub.cons rfl ?_
                · exact ⟨by rw [chk_no ht (by simpa using g5)]; rfl, hs9⟩
              ·
                refine TW.gq rfl rfl rfl rfl rfl g5 rfl rfl rfl (T := fun _ => True) (PV_move rfl rfl) trivial (fun _ => hs9) ?_
                refine TW.gq rfl rfl rfl rfl rfl g5 rfl rfl rfl (T := fun _ => True) (PV_gtr rfl rfl rfl) trivial (fun _ => hs9) ?_
                refine TW.gq rfl rfl rfl rfl rfl g5 rfl rfl rfl (T := fun _ => True) (PV_move rfl rfl) trivial (fun _ => hs9) ?_
                refine TW.split 49 rfl (fun g6 => ?_) (fun g6 => ?_)
                ·
                  have hi0 : 0 < i := by have := of_decide_eq_true g6; omega
                  obtain ⟨a, hta⟩ : ∃ a, K[i - 1]? = some a := ⟨_, List.getElem?_eq_getElem (by omega)⟩
                  refine TW.gp rfl rfl rfl rfl rfl g6 rfl rfl rfl (by first | exact PV_fieldAddr0 rfl rfl fa70_3 | exact PV_fieldAddr rfl rfl fa70_3) hs9 ?_
                  refine TW.gs rfl rfl rfl rfl rfl g6 rfl rfl rfl (PV_loadM1 rfl ag22 rfl (by first | exact m0 | exact m1 | exact m2 | exact m3 | exact m4 | exact m5 | exact mapp m0 | exact mapp m1 | exact mapp m2 | exact mapp m3 | exact hm | exact .tail _ hm | exact .tail _ (.tail _ hm)) (by first | exact w32_get (by omega) | exact wcells_get (by omega) | exact bc_get (by omega) | exact tc_34 | exact tc_35 | exact tc_36 | exact tc_0 | exact tc_1 | rfl)) hs9 ?_
                  refine TW.gp rfl rfl rfl rfl rfl g6 rfl rfl rfl (PV_move rfl rfl) hs9 ?_
                  refine TW.gp rfl rfl rfl rfl rfl g6 rfl rfl rfl (PV_sub rfl rfl rfl (by omega)) hs9 ?_
                  refine TW.gp rfl rfl rfl rfl rfl g6 rfl rfl rfl (PV_indexAddr (i := i - 1) rfl Tryz.underlying22 sz26 rfl rfl (by omega) (by omega)) hs9 ?_
                  refine TW.gs rfl rfl rfl rfl rfl g6 rfl rfl rfl (PV_loadMemA (j := (i - 1) * 37) rfl ag26 sz26 rfl (fun _ h => h.tail.tail) hmem (by rw [length_lcells]; omega) (part_lcells hta)) hs9 ?_
                  refine TW.gq rfl rfl rfl rfl rfl g6 rfl rfl rfl (PV_loadMA rfl ag26 sz26 rfl (by first | exact m0 | exact m1 | exact m2 | exact m3 | exact m4 | exact m5 | exact mapp m0 | exact mapp m1 | exact mapp m2 | exact mapp m3 | exact hm | exact .tail _ hm | exact .tail _ (.tail _ hm)) (by rw [length_tcells]; decide) (part_whole (length_tcells t))) hs9 (fun _ => hs9) ?_
                  refine TW.ge rfl rfl rfl rfl rfl g6 rfl rfl rfl (K2 rfl fn106 rfl rfl (C106 hs9)) ?_
                  rintro _ w10 ⟨rfl, hs10⟩
                  refine ⟨hs10, ?_⟩
                  refine TW.gq rfl rfl rfl rfl rfl g6 rfl rfl rfl (T := fun _ => True) (PV_not rfl rfl) trivial (fun _ => hs10) ?_
                  refine TW.gq rfl rfl rfl rfl rfl g5 rfl rfl rfl (T := fun _ => True) (PV_pickT rfl rfl g6 rfl) trivial (fun _ => hs10) ?_
                  refine TW.q rfl rfl rfl rfl (T := fun _ => True) (PV_pickF rfl rfl g5 rfl) trivial (fun _ => hs10) ?_
                  refine TW.done (cut_end (F := (fun b : Bool => [(60, .bool b), (38, .int .i64 (i : Int)), (37, .int .i64 (K.length : Int)), (36, .slice (some ⟨bb, off, none⟩) K.length c), (1, ptr b1 0)])) (J := (fun b w => b = !chkB K i ∧ Sat G ((b4, tcells t, 26) :: (b1, [.string s, .int .i64 v, .int .i64 e, .slice (some ⟨bb, off, none⟩) K.length c, .slice none 0 0], 70) :: M) I w)) (!risesB a t) ?_ ?_)
                  · repeat first | exact Sub.nil | refine Sub.cons rfl ?_
                  · exact ⟨by rw [chk_pos ht hta (by simpa using g5) hi0], hs10⟩
                ·
                  refine TW.gk rfl rfl rfl rfl rfl g6 rfl rfl rfl hs9 ?_
                  refine TW.gk rfl rfl rfl rfl rfl g6 rfl rfl rfl hs9 ?_
                  refine TW.gk rfl rfl rfl rfl rfl g6 rfl rfl rfl hs9 ?_
                  refine TW.gk rfl rfl rfl rfl rfl g6 rfl rfl rfl hs9 ?_
                  refine TW.gk rfl rfl rfl rfl rfl g6 rfl rfl rfl hs9 ?_
                  refine TW.gk rfl rfl rfl rfl rfl g6 rfl rfl rfl hs9 ?_
                  refine TW.gkf rfl rfl rfl rfl rfl g6 rfl rfl rfl hs9 ?_
                  refine TW.gkf rfl rfl rfl rfl rfl g6 rfl rfl rfl hs9 ?_
                  refine TW.gkf rfl rfl rfl rfl rfl g6 rfl rfl rfl hs9 ?_
                  refine TW.gq rfl rfl rfl rfl rfl g5 rfl rfl rfl (T := fun _ => True) (PV_pickF rfl rfl g6 rfl) trivial (fun _ => hs9) ?_
                  refine TW.q rfl rfl rfl rfl (T := fun _ => True) (PV_pickF rfl rfl g5 rfl) trivial (fun _ => hs9) ?_
                  refine TW.done (cut_end (F := (fun b : Bool => [(60, .bool b), (38, .int .i64 (i : Int)), (37, .int .i64 (K.length : Int)), (36, .slice (some ⟨bb, off, none⟩) K.length c), (1, ptr b1 0)])) (J := (fun b w => b = !chkB K i ∧ Sat G ((b4, tcells t, 26) :: (b1, [.string s, .int .i64 v, .int .i64 e, .slice (some ⟨bb, off, none⟩) K.length c, .slice none 0 0], 70) :: M) I w)) false ?_ ?_)
                  · repeat first | exact Sub.nil | refine Sub.cons rfl ?_
                  · exact ⟨by rw [chk_zero ht (by simpa using g5) (by have := of_decide_eq_false g6; omega)]; rfl, hs9⟩
            rintro b w107 ⟨hb, hs107⟩
            refine nxt ?_
            repeat (first | refine W.seq ?_ | refine W.region ?_)
            refine W.cond rfl (fun h3 => ?_) (fun h3 => ?_)
            ·
              repeat (first | refine W.seq ?_ | refine W.region ?_)
              refine RL.p rfl rfl rfl (PV_assign rfl rfl) ?_
              refine RL.done (nxt ?_)
              repeat (first | refine W.seq ?_ | refine W.region ?_)
              exact W.ret (ret_tmp rfl rfl ⟨_, rfl, (by subst h3; simp only [Bool.not_eq_true', Bool.not_eq_false'] at g1 g2 g3; rw [targetsB, g1, g2, g3, all_no hi1 (show chkB K i = false by simpa using hb)]; simp), hs107.tail.tail⟩)
            refine W.skip (nxt ?_)
            repeat (first | refine W.seq ?_ | refine W.region ?_)
            refine RL.p rfl rfl rfl (PV_add rfl rfl rfl (by omega)) ?_
            refine RL.p rfl rfl rfl (PV_move rfl rfl) ?_
            refine RL.done (round_end (i + 1) ?_ ?_ ?_)
            · repeat first | exact Sub.nil | refine Sub.cons rfl ?_
            · exact ⟨by omega, all_step hall (by subst h3; simpa using hb), hs107.tail⟩
            · first | omega | (dsimp only; omega)
          repeat (first | refine W.seq ?_ | refine W.region ?_)
          refine W.exit (nxt ?_)
          repeat (first | refine W.seq ?_ | refine W.region ?_)
          refine RL.p rfl rfl rfl (by first | exact PV_fieldAddr0 rfl rfl fa70_4 | exact PV_fieldAddr rfl rfl fa70_4) ?_
          refine RL.s rfl rfl rfl (PV_loadM1 rfl ag68 rfl (by first | exact m0 | exact m1 | exact m2 | exact m3 | exact m4 | exact m5 | exact mapp m0 | exact mapp m1 | exact mapp m2 | exact mapp m3 | exact hm | exact .tail _ hm | exact .tail _ (.tail _ hm)) (by first | exact w32_get (by omega) | exact wcells_get (by omega) | exact bc_get (by omega) | exact tc_34 | exact tc_35 | exact tc_36 | exact tc_0 | exact tc_1 | rfl)) hs5 ?_
          refine RL.p rfl rfl rfl (PV_len rfl Tryz.underlying68 rfl) ?_
          refine RL.p rfl rfl rfl (PV_move rfl rfl) ?_
          refine RL.done (nxt ?_)
          repeat (first | refine W.seq ?_ | refine W.region ?_)
          refine W.block ?_
          repeat (first | refine W.seq ?_ | refine W.region ?_)
          refine W.loop (F := fun _ : Unit => [(65, .int .i64 0), (64, .int .i64 ((0 : Nat) : Int))]) (J := fun _ w => Sat G ((b1, [.string s, .int .i64 v, .int .i64 e, .slice A K.length c, .slice none 0 0], 70) :: M) I w) (m := fun _ => 0) () (by repeat first | exact Sub.nil | refine Sub.cons rfl ?_) hs5 ?_
          rintro _ w6 hs6
          repeat (first | refine W.seq ?_ | refine W.region ?_)
          refine RL.p rfl rfl rfl (PV_lss rfl rfl rfl) ?_
          refine RL.done (nxt ?_)
          repeat (first | refine W.seq ?_ | refine W.region ?_)
          refine W.cond rfl (fun h4 => ?_) (fun h4 => ?_)
          · exact absurd (of_decide_eq_true h4) (by omega)
          repeat (first | refine W.seq ?_ | refine W.region ?_)
          refine W.exit (nxt ?_)
          repeat (first | refine W.seq ?_ | refine W.region ?_)
          refine RL.p rfl rfl rfl (PV_assign rfl rfl) ?_
          refine RL.done (nxt ?_)
          repeat (first | refine W.seq ?_ | refine W.region ?_)
          exact W.ret (ret_tmp rfl rfl ⟨_, rfl, (by simp only [Bool.not_eq_true', Bool.not_eq_false'] at g1 g2 g3; have hii : i = K.length := (by have := of_decide_eq_false h2; omega); rw [hii] at hall; rw [targetsB, g1, g2, g3, hall, show decide (K.length ≤ 16) = true by have := of_decide_eq_false g4; simp; omega]; rfl), hs6.tail⟩)

end Go.Proofs.YtecbpmgfikgoaaaGreatDoor
end
section
set_option linter.unusedVariables false
set_option linter.unusedSimpArgs false
set_option maxRecDepth 8000
set_option maxHeartbeats 4000000
namespace Go.Proofs.YtecbpmgfikgoaaaGreatDoor
open Go Go.RowKit
variable {G w : World} {M : List Chunk} {I : Imm}

theorem clamp_lt (x : Int) : clamp x < 128 ^ 9 := by unfold clamp; omega
theorem length_nums_le (l : List Int) : (nums l).length ≤ 9 * l.length := by
  induction l with
  | nil => simp [nums]
  | cons x l ih =>
    have := length_numB 9 _ (clamp_lt x)
    simp [nums] at ih ⊢
    omega
theorem length_rowB_le (l : List UInt8) : (rowB l).length ≤ 9 + l.length := by
  have := length_nums_le [(l.length : Int)]
  simp [rowB] at this ⊢
  omega
theorem length_targetE_le {t : Tgt} (h : t.ok) : (targetE t).length ≤ 2 ^ 22 := by
  have h1 := length_rowB_le (sbytes t.name)
  have h2 := length_rowB_le (sbytes t.hw)
  have h3 := length_rowB_le (sbytes t.ecu)
  have h4 := length_nums_le [t.size]
  have h5 := length_nums_le [t.ctr]
  have h6 := t.h
  simp only [length_sbytes, Tgt.ok] at h1 h2 h3 h
  simp [targetE] at h4 h5 ⊢
  omega
theorem length_flat_le {K : List Tgt} (h : ∀ t ∈ K, t.ok) : (K.flatMap targetE).length ≤ K.length * 2 ^ 22 := by
  induction K with
  | nil => simp
  | cons t K ih =>
    have h1 := length_targetE_le (h t (by simp))
    have h2 := ih (fun t ht => h t (by simp [ht]))
    rw [List.flatMap_cons, List.length_append, List.length_cons]
    omega
theorem bd_targets {k : Int} {s : ByteArray} {v e : Int} {K : List Tgt} (hsz : s.size ≤ 2 ^ 20) (hK : K.length ≤ 2 ^ 10) (hok : ∀ t ∈ K, t.ok) : (nums [k] ++ targetsE s v e K).length ≤ 2 ^ 40 := by
  have h1 := length_rowB_le (sbytes s)
  have h2 := length_flat_le hok
  have h3 := length_nums_le [k]
  have h4 := length_nums_le [v, e]
  have h5 := length_nums_le [(K.length : Int)]
  have h6 := length_nums_le [0]
  rw [length_sbytes] at h1
  have h7 : K.length * 2 ^ 22 ≤ 2 ^ 10 * 2 ^ 22 := Nat.mul_le_mul_right _ hK
  simp only [targetsE, tgtsE, List.length_append, List.length_cons, List.length_nil] at *
  omega
theorem bd_snap {k v e x : Int} {s : ByteArray} (hsz : s.size ≤ 2 ^ 20) : (nums [k] ++ snapE v e s x).length ≤ 2 ^ 40 := by
  have h1 := length_rowB_le (sbytes s)
  have h3 := length_nums_le [k]
  have h4 := length_nums_le [v, e]
  have h5 := length_nums_le [1]
  have h6 := length_nums_le [x]
  rw [length_sbytes] at h1
  simp only [snapE, pinE, List.length_append, List.length_cons, List.length_nil] at *
  omega
theorem bd_time {k v e sn : Int} {h : List UInt8} (h32 : h.length = 32) : (nums [k] ++ timeE v e sn h).length ≤ 2 ^ 40 := by
  have h3 := length_nums_le [k]
  have h4 := length_nums_le [v, e, sn]
  simp only [timeE, List.length_append, List.length_cons, List.length_nil] at *
  omega
theorem bd_root {k v e : Int} {hh : Nat → List UInt8} (h32 : ∀ j, j < 4 → (hh j).length = 32) : (nums [k] ++ rootE v e hh).length ≤ 2 ^ 40 := by
  have h3 := length_nums_le [k]
  have h4 := length_nums_le [v, e]
  have h5 := length_nums_le [1]
  have h6 : ∀ j, j < 4 → (keysE (hh j)).length ≤ 50 := fun j hj => by
    have := h32 j hj
    simp only [keysE, List.length_append, List.length_cons, List.length_nil] at *
    omega
  have h0 := h6 0 (by omega)
  have h1 := h6 1 (by omega)
  have h2 := h6 2 (by omega)
  have h33 := h6 3 (by omega)
  simp only [rootE, rolesE_succ, rolesE_zero, List.length_append, List.length_cons, List.length_nil] at *
  omega

theorem C53 {kind : Int} {may : Bool} {f : FuncId} {tb : Nat} {enc : List UInt8} (hf : Fn1 Tryz.prog f) (hlay : may = true → ∀ w wb, Wr G M I wb 125 (nums [kind]) w → Calls Tryz.prog f #[ptr wb 0, ptr tb 0] w (Ret fun r w' => r = .tuple #[] ∧ Wr G M I wb 125 (nums [kind] ++ enc) w')) (hl : (nums [kind] ++ enc).length ≤ 2 ^ 40) (hs : Sat G M I w) :
    Calls Tryz.prog 53 #[.int .i64 kind, .bool may, .func (.func f) #[] #[ptr tb 0]] w (Ret fun r w' => ∃ J v, Le I J ∧ r = .tuple #[v, .int .i64 (if may then 0 else 1)] ∧ (may = true → SlB J v (nums [kind] ++ enc)) ∧ (may = false → v = .slice none 0 0) ∧ Sat G M J w') := by
  refine enter3 Tryz.func53 rfl Tryz.ntmps53 rfl ?_
  repeat (first | refine W.seq ?_ | refine W.region ?_)
  refine RL.p rfl rfl rfl (PV_assign rfl rfl) ?_
  refine RL.p rfl rfl rfl (PV_assign rfl rfl) ?_
  refine RL.done (nxt ?_)
  repeat (first | refine W.seq ?_ | refine W.region ?_)
  refine RL.p rfl rfl rfl (PV_move rfl rfl) ?_
  refine RL.p rfl rfl rfl (PV_not rfl rfl) ?_
  refine RL.done (nxt ?_)
  repeat (first | refine W.seq ?_ | refine W.region ?_)
  refine W.cond rfl (fun h1 => ?_) (fun h1 => ?_)
  ·
    repeat (first | refine W.seq ?_ | refine W.region ?_)
    refine RL.p rfl rfl rfl (PV_assign rfl rfl) ?_
    refine RL.p rfl rfl rfl (PV_assign rfl rfl) ?_
    refine RL.done (nxt ?_)
    repeat (first | refine W.seq ?_ | refine W.region ?_)
    exact W.ret (ret_tmp2 rfl rfl rfl ⟨_, rfl, I, _, Le.refl I, by rw [show may = false by simpa using h1]; rfl, (fun h => by rw [show may = false by simpa using h1] at h; cases h), fun _ => rfl, hs⟩)
  refine W.skip (nxt ?_)
  repeat (first | refine W.seq ?_ | refine W.region ?_)
  refine RL.p rfl rfl rfl (PV_buildS rfl pl125 zr125 rfl rfl) ?_
  refine RL.e rfl rfl rfl (EF_boxA rfl rfl hs) ?_
  rintro _ w1 ⟨b12, rfl, hs1⟩
  have hs1 : Wr G M I b12 125 [] w1 := ⟨_, [], OwnS.nil, hs1⟩
  have hmay : may = true := by simpa using h1
  refine RL.p rfl rfl rfl (PV_assign rfl rfl) ?_
  refine RL.done (nxt ?_)
  repeat (first | refine W.seq ?_ | refine W.region ?_)
  refine RL.p rfl rfl rfl (PV_move rfl rfl) ?_
  refine RL.p rfl rfl rfl (PV_nilCheckP rfl rfl) ?_
  refine RL.p rfl rfl rfl (by first | exact PV_fieldAddr0 rfl rfl fa125_0 | exact PV_fieldAddr rfl rfl fa125_0) ?_
  refine RL.p rfl rfl rfl (PV_move rfl rfl) ?_
  refine RL.e rfl rfl rfl (EF_W hs1 (fun _ hs => EF_bs1c rfl el178 rfl rfl hs)) ?_
  rintro _ w2 ⟨b17, rfl, hs2⟩
  refine RL.e rfl rfl rfl (K2 rfl fn56 rfl rfl (C56_1 hs2 m0 (by simp at hl ⊢; omega))) ?_
  rintro _ w3 ⟨rfl, hs3⟩
  refine RL.done (nxt ?_)
  repeat (first | refine W.seq ?_ | refine W.region ?_)
  refine RL.p rfl rfl rfl (PV_move rfl rfl) ?_
  refine RL.p rfl rfl rfl (PV_move rfl rfl) ?_
  refine RL.e rfl rfl rfl (Kc1 rfl rfl hf rfl (hlay hmay _ _ hs3.tail)) ?_
  rintro _ w4 ⟨rfl, hs4⟩
  refine RL.done (nxt ?_)
  repeat (first | refine W.seq ?_ | refine W.region ?_)
  refine RL.p rfl rfl rfl (PV_move rfl rfl) ?_
  refine RL.p rfl rfl rfl (PV_nilCheckP rfl rfl) ?_
  refine RL.p rfl rfl rfl (by first | exact PV_fieldAddr0 rfl rfl fa125_0 | exact PV_fieldAddr rfl rfl fa125_0) ?_
  refine RL.e rfl rfl rfl (K1 rfl fn94 rfl (C94 hs4 hl)) ?_
  rintro _ w5 ⟨J, hj, hv, hs5⟩
  refine RL.p rfl rfl rfl (PV_assign rfl rfl) ?_
  refine RL.p rfl rfl rfl (PV_assign rfl rfl) ?_
  refine RL.done (nxt ?_)
  repeat (first | refine W.seq ?_ | refine W.region ?_)
  exact W.ret (ret_tmp2 rfl rfl rfl ⟨_, rfl, J, _, hj, by rw [hmay]; rfl, fun _ => hv, (fun h => by rw [hmay] at h; cases h), hs5⟩)

theorem C33 {v e : Int} {ks : Nat → Value} {hh : Nat → List UInt8} (h32 : ∀ j, j < 4 → (hh j).length = 32) (hk : ∀ j, j < 4 → SlM G M I 32 (ks j) 1 (bcells (hh j))) (hs : Sat G M I w) : Calls Tryz.prog 33 #[aggL (rcells v e ks)] w (Ret fun r w' => ∃ J u, Le I J ∧ r = .tuple #[u, .int .i64 (if (isVersionB v && isNumB e) then 0 else 1)] ∧ ((isVersionB v && isNumB e) = true → SlB J u (nums [1] ++ rootE v e hh)) ∧ ((isVersionB v && isNumB e) = false → u = .slice none 0 0) ∧ Sat G M J w') := by
  have hbd : (nums [1] ++ rootE v e hh).length ≤ 2 ^ 40 := bd_root h32
  refine enter1 Tryz.func33 rfl Tryz.ntmps33 rfl ?_
  repeat (first | refine W.seq ?_ | refine W.region ?_)
  refine RL.e rfl rfl rfl (EF_boxA rfl rfl hs) ?_
  rintro _ w1 ⟨b1, rfl, hs1⟩
  refine RL.p rfl rfl rfl (PV_assign rfl rfl) ?_
  refine RL.p rfl rfl rfl (PV_assign rfl rfl) ?_
  refine RL.done (nxt ?_)
  repeat (first | refine W.seq ?_ | refine W.region ?_)
  refine RL.s rfl rfl rfl (PV_loadMA rfl ag42 sz42 rfl (by first | exact m0 | exact m1 | exact m2 | exact m3 | exact m4 | exact m5 | exact mapp m0 | exact mapp m1 | exact mapp m2 | exact mapp m3 | exact hm | exact .tail _ hm | exact .tail _ (.tail _ hm)) (by simp [rcells, rroles]) (part_whole rfl)) hs1 ?_
  refine RL.e rfl rfl rfl (K1 rfl fn54 rfl (C54 h32 (fun j hj => (hk j hj).mono fun _ h => h.tail) hs1)) ?_
  rintro _ w2 ⟨rfl, hs2⟩
  refine RL.p rfl rfl rfl (PV_makeFuncC rfl rfl) ?_
  refine RL.e rfl rfl rfl (K3 rfl fn53 rfl rfl rfl (C53 fn55 (fun _ w wb h => C55 m0 h32 (fun j hj => (hk j hj).mono fun _ h => h.tail) h hbd) hbd hs2)) ?_
  rintro _ w3 ⟨J, u, hj, rfl, hy, hn, hs3⟩
  refine RL.p rfl rfl rfl (PV_extract rfl rfl rfl) ?_
  refine RL.p rfl rfl rfl (PV_extract rfl rfl rfl) ?_
  refine RL.p rfl rfl rfl (PV_assign rfl rfl) ?_
  refine RL.p rfl rfl rfl (PV_assign rfl rfl) ?_
  refine RL.done (nxt ?_)
  repeat (first | refine W.seq ?_ | refine W.region ?_)
  exact W.ret (ret_tmp2 rfl rfl rfl ⟨_, rfl, J, u, hj, rfl, hy, hn, hs3.tail⟩)

theorem C37 {s : ByteArray} {v e : Int} {lv : Value} {K : List Tgt} (hsz : s.size ≤ 2 ^ 20) (hK : K.length ≤ 2 ^ 10) (hok : ∀ t ∈ K, t.ok) (hv : SlM G M I 37 lv K.length (lcells K)) (hs : Sat G M I w) : Calls Tryz.prog 37 #[aggL [.string s, .int .i64 v, .int .i64 e, lv, .slice none 0 0]] w (Ret fun r w' => ∃ J u, Le I J ∧ r = .tuple #[u, .int .i64 (if (targetsB s v e K) then 0 else 1)] ∧ ((targetsB s v e K) = true → SlB J u (nums [4] ++ targetsE s v e K)) ∧ ((targetsB s v e K) = false → u = .slice none 0 0) ∧ Sat G M J w') := by
  have hbd : (nums [4] ++ targetsE s v e K).length ≤ 2 ^ 40 := bd_targets hsz hK hok
  refine enter1 Tryz.func37 rfl Tryz.ntmps37 rfl ?_
  repeat (first | refine W.seq ?_ | refine W.region ?_)
  refine RL.e rfl rfl rfl (EF_boxA rfl rfl hs) ?_
  rintro _ w1 ⟨b1, rfl, hs1⟩
  refine RL.p rfl rfl rfl (PV_assign rfl rfl) ?_
  refine RL.p rfl rfl rfl (PV_assign rfl rfl) ?_
  refine RL.done (nxt ?_)
  repeat (first | refine W.seq ?_ | refine W.region ?_)
  refine RL.s rfl rfl rfl (PV_loadMA rfl ag70 sz70 rfl (by first | exact m0 | exact m1 | exact m2 | exact m3 | exact m4 | exact m5 | exact mapp m0 | exact mapp m1 | exact mapp m2 | exact mapp m3 | exact hm | exact .tail _ hm | exact .tail _ (.tail _ hm)) (by simp) (part_whole rfl)) hs1 ?_
  refine RL.e rfl rfl rfl (K1 rfl fn62 rfl (C62 hsz (by omega) hok (hv.mono fun _ h => h.tail) hs1)) ?_
  rintro _ w2 ⟨rfl, hs2⟩
  refine RL.p rfl rfl rfl (PV_makeFuncC rfl rfl) ?_
  refine RL.e rfl rfl rfl (K3 rfl fn53 rfl rfl rfl (C53 fn63 (fun _ w wb h => C63 m0 (hv.mono fun _ h => h.tail) h hbd) hbd hs2)) ?_
  rintro _ w3 ⟨J, u, hj, rfl, hy, hn, hs3⟩
  refine RL.p rfl rfl rfl (PV_extract rfl rfl rfl) ?_
  refine RL.p rfl rfl rfl (PV_extract rfl rfl rfl) ?_
  refine RL.p rfl rfl rfl (PV_assign rfl rfl) ?_
  refine RL.p rfl rfl rfl (PV_assign rfl rfl) ?_
  refine RL.done (nxt ?_)
  repeat (first | refine W.seq ?_ | refine W.region ?_)
  exact W.ret (ret_tmp2 rfl rfl rfl ⟨_, rfl, J, u, hj, rfl, hy, hn, hs3.tail⟩)

theorem C38 {s : ByteArray} {v e x : Int} {pv : Value} (hsz : s.size ≤ 2 ^ 20) (hv : SlM G M I 2 pv 1 [.string s, .int .i64 x]) (hs : Sat G M I w) : Calls Tryz.prog 38 #[aggL [.int .i64 v, .int .i64 e, pv]] w (Ret fun r w' => ∃ J u, Le I J ∧ r = .tuple #[u, .int .i64 (if (nameB s && (isVersionB x && (isVersionB v && isNumB e))) then 0 else 1)] ∧ ((nameB s && (isVersionB x && (isVersionB v && isNumB e))) = true → SlB J u (nums [3] ++ snapE v e s x)) ∧ ((nameB s && (isVersionB x && (isVersionB v && isNumB e))) = false → u = .slice none 0 0) ∧ Sat G M J w') := by
  have hbd : (nums [3] ++ snapE v e s x).length ≤ 2 ^ 40 := bd_snap hsz
  refine enter1 Tryz.func38 rfl Tryz.ntmps38 rfl ?_
  repeat (first | refine W.seq ?_ | refine W.region ?_)
  refine RL.e rfl rfl rfl (EF_boxA rfl rfl hs) ?_
  rintro _ w1 ⟨b1, rfl, hs1⟩
  refine RL.p rfl rfl rfl (PV_assign rfl rfl) ?_
  refine RL.p rfl rfl rfl (PV_assign rfl rfl) ?_
  refine RL.done (nxt ?_)
  repeat (first | refine W.seq ?_ | refine W.region ?_)
  refine RL.s rfl rfl rfl (PV_loadMA rfl ag48 sz48 rfl (by first | exact m0 | exact m1 | exact m2 | exact m3 | exact m4 | exact m5 | exact mapp m0 | exact mapp m1 | exact mapp m2 | exact mapp m3 | exact hm | exact .tail _ hm | exact .tail _ (.tail _ hm)) (by simp) (part_whole rfl)) hs1 ?_
  refine RL.e rfl rfl rfl (K1 rfl fn69 rfl (C69 hsz (hv.mono fun _ h => h.tail) hs1)) ?_
  rintro _ w2 ⟨rfl, hs2⟩
  refine RL.p rfl rfl rfl (PV_makeFuncC rfl rfl) ?_
  refine RL.e rfl rfl rfl (K3 rfl fn53 rfl rfl rfl (C53 fn70 (fun _ w wb h => C70 m0 (hv.mono fun _ h => h.tail) h hbd) hbd hs2)) ?_
  rintro _ w3 ⟨J, u, hj, rfl, hy, hn, hs3⟩
  refine RL.p rfl rfl rfl (PV_extract rfl rfl rfl) ?_
  refine RL.p rfl rfl rfl (PV_extract rfl rfl rfl) ?_
  refine RL.p rfl rfl rfl (PV_assign rfl rfl) ?_
  refine RL.p rfl rfl rfl (PV_assign rfl rfl) ?_
  refine RL.done (nxt ?_)
  repeat (first | refine W.seq ?_ | refine W.region ?_)
  exact W.ret (ret_tmp2 rfl rfl rfl ⟨_, rfl, J, u, hj, rfl, hy, hn, hs3.tail⟩)

theorem C39 {v e sn : Int} {h : List UInt8} (h32 : h.length = 32) (hs : Sat G M I w) : Calls Tryz.prog 39 #[aggL (.int .i64 v :: .int .i64 e :: .int .i64 sn :: bcells h)] w (Ret fun r w' => ∃ J u, Le I J ∧ r = .tuple #[u, .int .i64 (if (isVersionB v && (isNumB e && isVersionB sn)) then 0 else 1)] ∧ ((isVersionB v && (isNumB e && isVersionB sn)) = true → SlB J u (nums [2] ++ timeE v e sn h)) ∧ ((isVersionB v && (isNumB e && isVersionB sn)) = false → u = .slice none 0 0) ∧ Sat G M J w') := by
  have hbd : (nums [2] ++ timeE v e sn h).length ≤ 2 ^ 40 := bd_time h32
  refine enter1 Tryz.func39 rfl Tryz.ntmps39 rfl ?_
  repeat (first | refine W.seq ?_ | refine W.region ?_)
  refine RL.e rfl rfl rfl (EF_boxA rfl rfl hs) ?_
  rintro _ w1 ⟨b1, rfl, hs1⟩
  refine RL.p rfl rfl rfl (PV_assign rfl rfl) ?_
  refine RL.p rfl rfl rfl (PV_assign rfl rfl) ?_
  refine RL.done (nxt ?_)
  repeat (first | refine W.seq ?_ | refine W.region ?_)
  refine RL.s rfl rfl rfl (PV_loadMA rfl ag45 sz45 rfl (by first | exact m0 | exact m1 | exact m2 | exact m3 | exact m4 | exact m5 | exact mapp m0 | exact mapp m1 | exact mapp m2 | exact mapp m3 | exact hm | exact .tail _ hm | exact .tail _ (.tail _ hm)) (by simp [length_bcells, h32]) (part_whole (by simp [length_bcells, h32]))) hs1 ?_
  refine RL.e rfl rfl rfl (K1 rfl fn73 rfl (C73 h32 hs1)) ?_
  rintro _ w2 ⟨rfl, hs2⟩
  refine RL.p rfl rfl rfl (PV_makeFuncC rfl rfl) ?_
  refine RL.e rfl rfl rfl (K3 rfl fn53 rfl rfl rfl (C53 fn74 (fun _ w wb h => C74 h32 m0 h hbd) hbd hs2)) ?_
  rintro _ w3 ⟨J, u, hj, rfl, hy, hn, hs3⟩
  refine RL.p rfl rfl rfl (PV_extract rfl rfl rfl) ?_
  refine RL.p rfl rfl rfl (PV_extract rfl rfl rfl) ?_
  refine RL.p rfl rfl rfl (PV_assign rfl rfl) ?_
  refine RL.p rfl rfl rfl (PV_assign rfl rfl) ?_
  refine RL.done (nxt ?_)
  repeat (first | refine W.seq ?_ | refine W.region ?_)
  exact W.ret (ret_tmp2 rfl rfl rfl ⟨_, rfl, J, u, hj, rfl, hy, hn, hs3.tail⟩)

end Go.Proofs.YtecbpmgfikgoaaaGreatDoor
end
