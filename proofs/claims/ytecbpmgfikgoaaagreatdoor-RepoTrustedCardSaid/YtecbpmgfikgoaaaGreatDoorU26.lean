/- Walks of functions 15: what each call gives back, and that it writes nothing of anybody else's. Conditions: as each theorem says. -/
import Derived.Test.YtecbpmgfikgoaaaGreatDoorU25
set_option linter.unusedVariables false
set_option linter.unusedSimpArgs false
set_option maxRecDepth 8000
set_option maxHeartbeats 4000000
namespace Go.Proofs.YtecbpmgfikgoaaaGreatDoor
open Go Go.RowKit
variable {G w : World} {M : List Chunk} {I : Imm}

theorem C15u {rb k0 n0 : Nat} {rc : List Value} {s0 : List UInt8} (hr : (rb, rc, 78) ∈ M) (hr0 : rc[32]? = some (ptr k0 0)) (hk0 : KeyAt M I k0 s0 n0) (hu : 16 ≤ n0) (hs : Sat G M I w) : Calls Tryz.prog 15 #[ptr rb 0] w (Ret fun r w' => r = .int .i64 3 ∧ Sat G M I w') := by
  obtain ⟨lv1, h321, hm1, hv1⟩ := hk0
  refine enter1 Tryz.func15 rfl Tryz.ntmps15 rfl ?_
  repeat (first | refine W.seq ?_ | refine W.region ?_)
  refine RL.p rfl rfl rfl (PV_assign rfl rfl) ?_
  refine RL.done (nxt ?_)
  repeat (first | refine W.seq ?_ | refine W.region ?_)
  refine W.block ?_
  repeat (first | refine W.seq ?_ | refine W.region ?_)
  refine RL.p rfl rfl rfl (PV_move rfl rfl) ?_
  refine RL.p rfl rfl rfl (PV_eqnil rfl Tryz.underlying27 rfl rfl) ?_
  refine RL.p rfl rfl rfl (PV_assign rfl rfl) ?_
  refine RL.done (nxt ?_)
  repeat (first | refine W.seq ?_ | refine W.region ?_)
  refine W.cond rfl (fun h1 => ?_) (fun h1 => ?_)
  · cases h1
  repeat (first | refine W.seq ?_ | refine W.region ?_)
  refine RL.p rfl rfl rfl (PV_move rfl rfl) ?_
  refine RL.p rfl rfl rfl (PV_nilCheckP rfl rfl) ?_
  refine RL.p rfl rfl rfl (by first | exact PV_fieldAddr0 rfl rfl fa78_1 | exact PV_fieldAddr rfl rfl fa78_1) ?_
  refine RL.p rfl rfl rfl (PV_indexArr (i := 0) rfl Tryz.underlying76 sz75 rfl rfl rfl (by decide)) ?_
  refine RL.s rfl rfl rfl (PV_loadM1 rfl ag75 rfl hr hr0) hs ?_
  refine RL.e rfl rfl rfl (K1 rfl fn32 rfl (C32 h321 hm1 hs)) ?_
  rintro r1 w1 ⟨rfl, hs1⟩
  refine RL.p rfl rfl rfl (PV_geq rfl rfl rfl) ?_
  refine RL.p rfl rfl rfl (PV_assign rfl rfl) ?_
  refine RL.done (nxt ?_)
  repeat (first | refine W.seq ?_ | refine W.region ?_)
  refine W.cond rfl (fun h2 => ?_) (fun h2 => ?_)
  rotate_left
  · exact absurd (of_decide_eq_false h2) (by omega)
  repeat (first | refine W.seq ?_ | refine W.region ?_)
  refine RL.p rfl rfl rfl (PV_assign rfl rfl) ?_
  refine RL.done (nxt ?_)
  repeat (first | refine W.seq ?_ | refine W.region ?_)
  exact W.ret (ret_tmp rfl rfl ⟨_, rfl, rfl, hs1⟩)

end Go.Proofs.YtecbpmgfikgoaaaGreatDoor
