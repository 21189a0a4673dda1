/- Walks of functions 6: what each call gives back, and that it writes nothing of anybody else's. Conditions: as each theorem says. -/
import Derived.Test.YtecbpmgfikgoaaaGreatDoorK5
set_option linter.unusedVariables false
set_option linter.unusedSimpArgs false
set_option maxRecDepth 8000
set_option maxHeartbeats 4000000
namespace Go.Proofs.YtecbpmgfikgoaaaGreatDoor
open Go Go.RowKit
variable {G w : World} {M : List Chunk} {I : Imm}

theorem C6 {t : Tgt} (h1 : t.name.size ≤ 2 ^ 60) (h2 : t.hw.size ≤ 2 ^ 60) (h3 : t.ecu.size ≤ 2 ^ 60) (hs : Sat G M I w) : Calls Tryz.prog 6 #[aggL (tcells t)] w (Ret fun r w' => r = .bool true ∧ Sat G M I w') := by
  refine enter1 Tryz.func6 rfl Tryz.ntmps6 rfl ?_
  repeat (first | refine W.seq ?_ | refine W.region ?_)
  refine RL.e rfl rfl rfl (EF_boxA rfl rfl hs) ?_
  rintro r1 w1 ⟨b1, rfl, hs1⟩
  refine RL.p rfl rfl rfl (PV_assign rfl rfl) ?_
  refine RL.done (nxt ?_)
  repeat (first | refine W.seq ?_ | refine W.region ?_)
  refine RL.p rfl rfl rfl (by first | exact PV_fieldAddr0 rfl rfl fa26_0 | exact PV_fieldAddr rfl rfl fa26_0) ?_
  refine RL.s rfl rfl rfl (PV_loadM1 rfl ag9 rfl (by first | exact m0 | exact m1 | exact m2 | exact m3 | exact m4 | exact m5 | exact mapp m0 | exact mapp m1 | exact mapp m2 | exact mapp m3 | exact hm | exact .tail _ hm | exact .tail _ (.tail _ hm)) (by first | exact w32_get (by omega) | exact wcells_get (by omega) | exact bc_get (by omega) | exact tc_34 | exact tc_35 | exact tc_36 | exact tc_0 | exact tc_1 | rfl)) hs1 ?_
  refine RL.p rfl rfl rfl (PV_lens rfl Tryz.underlying9 rfl) ?_
  refine RL.p rfl rfl rfl (by first | exact PV_fieldAddr0 rfl rfl fa26_3 | exact PV_fieldAddr rfl rfl fa26_3) ?_
  refine RL.s rfl rfl rfl (PV_loadM1 rfl ag9 rfl (by first | exact m0 | exact m1 | exact m2 | exact m3 | exact m4 | exact m5 | exact mapp m0 | exact mapp m1 | exact mapp m2 | exact mapp m3 | exact hm | exact .tail _ hm | exact .tail _ (.tail _ hm)) (by first | exact w32_get (by omega) | exact wcells_get (by omega) | exact bc_get (by omega) | exact tc_34 | exact tc_35 | exact tc_36 | exact tc_0 | exact tc_1 | rfl)) hs1 ?_
  refine RL.p rfl rfl rfl (PV_lens rfl Tryz.underlying9 rfl) ?_
  refine RL.p rfl rfl rfl (PV_add rfl rfl rfl (by omega)) ?_
  refine RL.p rfl rfl rfl (by first | exact PV_fieldAddr0 rfl rfl fa26_5 | exact PV_fieldAddr rfl rfl fa26_5) ?_
  refine RL.s rfl rfl rfl (PV_loadM1 rfl ag9 rfl (by first | exact m0 | exact m1 | exact m2 | exact m3 | exact m4 | exact m5 | exact mapp m0 | exact mapp m1 | exact mapp m2 | exact mapp m3 | exact hm | exact .tail _ hm | exact .tail _ (.tail _ hm)) (by first | exact w32_get (by omega) | exact wcells_get (by omega) | exact bc_get (by omega) | exact tc_34 | exact tc_35 | exact tc_36 | exact tc_0 | exact tc_1 | rfl)) hs1 ?_
  refine RL.p rfl rfl rfl (PV_lens rfl Tryz.underlying9 rfl) ?_
  refine RL.p rfl rfl rfl (PV_add rfl rfl rfl (by omega)) ?_
  refine RL.p rfl rfl rfl (PV_gtr rfl rfl rfl) ?_
  refine RL.done (nxt ?_)
  repeat (first | refine W.seq ?_ | refine W.region ?_)
  refine W.cond rfl (fun h1 => ?_) (fun h1 => ?_)
  ·
    repeat (first | refine W.seq ?_ | refine W.region ?_)
    refine RL.p rfl rfl rfl (PV_assign rfl rfl) ?_
    refine RL.done (nxt ?_)
    repeat (first | refine W.seq ?_ | refine W.region ?_)
    exact W.ret (ret_tmp rfl rfl ⟨_, rfl, rfl, hs1.tail⟩)
  refine W.skip (nxt ?_)
  repeat (first | refine W.seq ?_ | refine W.region ?_)
  refine RL.p rfl rfl rfl (PV_assign rfl rfl) ?_
  refine RL.done (nxt ?_)
  repeat (first | refine W.seq ?_ | refine W.region ?_)
  refine RL.p rfl rfl rfl (PV_move rfl rfl) ?_
  refine RL.e rfl rfl rfl (K1 rfl fn21 rfl (C21n hs1)) ?_
  rintro r2 w2 ⟨rfl, hs2⟩
  refine RL.p rfl rfl rfl (PV_move rfl rfl) ?_
  refine RL.p rfl rfl rfl (PV_extract rfl rfl rfl) ?_
  refine RL.p rfl rfl rfl (PV_extract rfl rfl rfl) ?_
  refine RL.p rfl rfl rfl (PV_assign rfl rfl) ?_
  refine RL.p rfl rfl rfl (PV_assign rfl rfl) ?_
  refine RL.done (nxt ?_)
  repeat (first | refine W.seq ?_ | refine W.region ?_)
  refine RL.p rfl rfl rfl (PV_move rfl rfl) ?_
  refine RL.s rfl rfl rfl (PV_loadMA rfl ag26 sz26 rfl (by first | exact m0 | exact m1 | exact m2 | exact m3 | exact m4 | exact m5 | exact mapp m0 | exact mapp m1 | exact mapp m2 | exact mapp m3 | exact hm | exact .tail _ hm | exact .tail _ (.tail _ hm)) (by rw [length_tcells]; decide) (part_whole (length_tcells _))) hs2 ?_
  refine RL.e rfl rfl rfl (K2 rfl fn8 rfl rfl (C8n hs2)) ?_
  rintro r3 w3 ⟨rfl, hs3⟩
  refine RL.p rfl rfl rfl (PV_eqi rfl rfl rfl) ?_
  refine RL.p rfl rfl rfl (PV_move rfl rfl) ?_
  refine RL.split 27 rfl (fun g1 => ?_) (fun g1 => by exact absurd (of_decide_eq_false g1) (by decide))
  refine RL.gp rfl rfl rfl rfl g1 rfl rfl rfl (PV_move rfl rfl) ?_
  refine RL.gp rfl rfl rfl rfl g1 rfl rfl rfl (by first | exact PV_fieldAddr0 rfl rfl fa26_0 | exact PV_fieldAddr rfl rfl fa26_0) ?_
  refine RL.gs rfl rfl rfl rfl g1 rfl rfl rfl (PV_loadM1 rfl ag9 rfl (by first | exact m0 | exact m1 | exact m2 | exact m3 | exact m4 | exact m5 | exact mapp m0 | exact mapp m1 | exact mapp m2 | exact mapp m3 | exact hm | exact .tail _ hm | exact .tail _ (.tail _ hm)) (by first | exact w32_get (by omega) | exact wcells_get (by omega) | exact bc_get (by omega) | exact tc_34 | exact tc_35 | exact tc_36 | exact tc_0 | exact tc_1 | rfl)) hs3 ?_
  refine RL.gp rfl rfl rfl rfl g1 rfl rfl rfl (by first | exact PV_fieldAddr0 rfl rfl fa26_5 | exact PV_fieldAddr rfl rfl fa26_5) ?_
  refine RL.gs rfl rfl rfl rfl g1 rfl rfl rfl (PV_loadM1 rfl ag9 rfl (by first | exact m0 | exact m1 | exact m2 | exact m3 | exact m4 | exact m5 | exact mapp m0 | exact mapp m1 | exact mapp m2 | exact mapp m3 | exact hm | exact .tail _ hm | exact .tail _ (.tail _ hm)) (by first | exact w32_get (by omega) | exact wcells_get (by omega) | exact bc_get (by omega) | exact tc_34 | exact tc_35 | exact tc_36 | exact tc_0 | exact tc_1 | rfl)) hs3 ?_
  refine RL.ge rfl rfl rfl rfl g1 rfl rfl rfl (K3 rfl fn14 rfl rfl rfl (C14n hs3)) ?_
  rintro r4 w4 ⟨rfl, hs4⟩
  refine RL.gp rfl rfl rfl rfl g1 rfl rfl rfl (PV_eqi rfl rfl rfl) ?_
  refine RL.p rfl rfl rfl (PV_pickT rfl rfl g1 rfl) ?_
  refine RL.p rfl rfl rfl (PV_move rfl rfl) ?_
  refine RL.split 36 rfl (fun g2 => ?_) (fun g2 => by exact absurd (of_decide_eq_false g2) (by decide))
  refine RL.gp rfl rfl rfl rfl g2 rfl rfl rfl (PV_move rfl rfl) ?_
  refine RL.ge rfl rfl rfl rfl g2 rfl rfl rfl (K3 rfl fn16 rfl rfl rfl (C16n hs4)) ?_
  rintro r5 w5 ⟨rfl, hs5⟩
  refine RL.gp rfl rfl rfl rfl g2 rfl rfl rfl (PV_eqi rfl rfl rfl) ?_
  refine RL.p rfl rfl rfl (PV_pickT rfl rfl g2 rfl) ?_
  refine RL.p rfl rfl rfl (PV_move rfl rfl) ?_
  refine RL.split 41 rfl (fun g3 => ?_) (fun g3 => by exact absurd (of_decide_eq_false g3) (by decide))
  refine RL.gp rfl rfl rfl rfl g3 rfl rfl rfl (PV_move rfl rfl) ?_
  refine RL.ge rfl rfl rfl rfl g3 rfl rfl rfl (K1 rfl fn15 rfl (C15n hs5)) ?_
  rintro r6 w6 ⟨rfl, hs6⟩
  refine RL.gp rfl rfl rfl rfl g3 rfl rfl rfl (PV_eqi rfl rfl rfl) ?_
  refine RL.p rfl rfl rfl (PV_pickT rfl rfl g3 rfl) ?_
  refine RL.p rfl rfl rfl (PV_move rfl rfl) ?_
  refine RL.split 46 rfl (fun g4 => ?_) (fun g4 => by exact absurd (of_decide_eq_false g4) (by decide))
  refine RL.gp rfl rfl rfl rfl g4 rfl rfl rfl (PV_move rfl rfl) ?_
  refine RL.ge rfl rfl rfl rfl g4 rfl rfl rfl (K1 rfl fn9 rfl (C9n hs6)) ?_
  rintro r7 w7 ⟨rfl, hs7⟩
  refine RL.gp rfl rfl rfl rfl g4 rfl rfl rfl (PV_len rfl Tryz.underlying22 rfl) ?_
  refine RL.gp rfl rfl rfl rfl g4 rfl rfl rfl (PV_eqi rfl rfl rfl) ?_
  refine RL.p rfl rfl rfl (PV_pickT rfl rfl g4 rfl) ?_
  refine RL.p rfl rfl rfl (PV_move rfl rfl) ?_
  refine RL.split 52 rfl (fun g5 => ?_) (fun g5 => by exact absurd (of_decide_eq_false g5) (by decide))
  refine RL.gp rfl rfl rfl rfl g5 rfl rfl rfl (PV_move rfl rfl) ?_
  refine RL.ge rfl rfl rfl rfl g5 rfl rfl rfl (K1 rfl fn20 rfl (C20n hs7)) ?_
  rintro r8 w8 ⟨rfl, hs8⟩
  refine RL.gp rfl rfl rfl rfl g5 rfl rfl rfl (PV_len rfl Tryz.underlying22 rfl) ?_
  refine RL.gp rfl rfl rfl rfl g5 rfl rfl rfl (PV_eqi rfl rfl rfl) ?_
  refine RL.p rfl rfl rfl (PV_pickT rfl rfl g5 rfl) ?_
  refine RL.p rfl rfl rfl (PV_move rfl rfl) ?_
  refine RL.split 58 rfl (fun g6 => ?_) (fun g6 => by exact absurd (of_decide_eq_false g6) (by decide))
  refine RL.gp rfl rfl rfl rfl g6 rfl rfl rfl (PV_move rfl rfl) ?_
  refine RL.ge rfl rfl rfl rfl g6 rfl rfl rfl (K1 rfl fn18 rfl (C18n hs8)) ?_
  rintro r9 w9 ⟨rfl, hs9⟩
  refine RL.gp rfl rfl rfl rfl g6 rfl rfl rfl (PV_field rfl Tryz.underlying65 rfl (by first | exact ag59 | exact ag3 | exact ag22) rfl rfl) ?_
  refine RL.gp rfl rfl rfl rfl g6 rfl rfl rfl (PV_len rfl Tryz.underlying59 rfl) ?_
  refine RL.gp rfl rfl rfl rfl g6 rfl rfl rfl (PV_eqi rfl rfl rfl) ?_
  refine RL.p rfl rfl rfl (PV_pickT rfl rfl g6 rfl) ?_
  refine RL.p rfl rfl rfl (PV_move rfl rfl) ?_
  refine RL.split 65 rfl (fun g7 => ?_) (fun g7 => by exact absurd (of_decide_eq_false g7) (by decide))
  refine RL.gp rfl rfl rfl rfl g7 rfl rfl rfl (PV_move rfl rfl) ?_
  refine RL.ge rfl rfl rfl rfl g7 rfl rfl rfl (K1 rfl fn13 rfl (C13n hs9)) ?_
  rintro r10 w10 ⟨rfl, hs10⟩
  refine RL.gp rfl rfl rfl rfl g7 rfl rfl rfl (PV_field rfl Tryz.underlying42 rfl (by first | exact ag59 | exact ag3 | exact ag22) rfl rfl) ?_
  refine RL.gp rfl rfl rfl rfl g7 rfl rfl rfl (PV_eqi rfl rfl rfl) ?_
  refine RL.p rfl rfl rfl (PV_pickT rfl rfl g7 rfl) ?_
  refine RL.p rfl rfl rfl (PV_move rfl rfl) ?_
  refine RL.split 71 rfl (fun g8 => ?_) (fun g8 => by exact absurd (of_decide_eq_false g8) (by decide))
  refine RL.gp rfl rfl rfl rfl g8 rfl rfl rfl (PV_move rfl rfl) ?_
  refine RL.gp rfl rfl rfl rfl g8 rfl rfl rfl (PV_move rfl rfl) ?_
  refine RL.gp rfl rfl rfl rfl g8 rfl rfl rfl (PV_add rfl rfl rfl (by omega)) ?_
  refine RL.gp rfl rfl rfl rfl g8 rfl rfl rfl (PV_eqi rfl rfl rfl) ?_
  refine RL.p rfl rfl rfl (PV_pickT rfl rfl g8 rfl) ?_
  refine RL.p rfl rfl rfl (PV_move rfl rfl) ?_
  refine RL.split 77 rfl (fun g9 => ?_) (fun g9 => by exact absurd (of_decide_eq_false g9) (by decide))
  refine RL.ge rfl rfl rfl rfl g9 rfl rfl rfl (K0 rfl fn11 (C11 hs10)) ?_
  rintro r11 w11 ⟨rfl, hs11⟩
  refine RL.p rfl rfl rfl (PV_pickT rfl rfl g9 rfl) ?_
  refine RL.p rfl rfl rfl (PV_assign rfl rfl) ?_
  refine RL.done (nxt ?_)
  repeat (first | refine W.seq ?_ | refine W.region ?_)
  exact W.ret (ret_tmp rfl rfl ⟨_, rfl, rfl, hs11.tail⟩)

end Go.Proofs.YtecbpmgfikgoaaaGreatDoor
