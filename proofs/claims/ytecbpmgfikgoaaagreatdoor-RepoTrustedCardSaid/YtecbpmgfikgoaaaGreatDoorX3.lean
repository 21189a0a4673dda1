/- Walks of functions 153 129 130: what each call gives back, and that it writes nothing of anybody else's. Conditions: as each theorem says. -/
import Derived.Test.YtecbpmgfikgoaaaGreatDoorX2
set_option linter.unusedVariables false
set_option linter.unusedSimpArgs false
set_option maxRecDepth 8000
set_option maxHeartbeats 4000000
namespace Go.Proofs.YtecbpmgfikgoaaaGreatDoor
open Go Go.RowKit
variable {G w : World} {M : List Chunk} {I : Imm}

theorem C153 {x : UInt32} {q : Int} {m : Nat} (hq : q = (m : Int)) (h0 : 0 < m) (h1 : m < 32) (hs : Sat G M I w) : Calls Tryz.prog 153 #[u32v x, .int .u64 q] w (Ret fun r w' => r = u32v (rotr x m) ∧ Sat G M I w') := by
  refine enter2 Tryz.func153 rfl Tryz.ntmps153 rfl ?_
  repeat first | apply W.seq | apply W.region
  refine RL.p rfl rfl rfl (PV_assign rfl rfl) ?_
  refine RL.done (nxt ?_)
  repeat first | apply W.seq | apply W.region
  refine RL.p rfl rfl rfl (PV_move rfl rfl) ?_
  refine RL.p rfl rfl rfl (PV_move rfl rfl) ?_
  refine RL.p rfl rfl rfl (PV_u32_shr rfl rfl rfl hq h1) ?_
  refine RL.p rfl rfl rfl (PV_move rfl rfl) ?_
  refine RL.p rfl rfl rfl (PV_move rfl rfl) ?_
  refine RL.p rfl rfl rfl (PV_u64_sub (a := 32) rfl rfl rfl rfl hq (by omega) (by decide)) ?_
  refine RL.p rfl rfl rfl (PV_u32_shl rfl rfl rfl rfl (by omega)) ?_
  refine RL.p rfl rfl rfl (PV_u32_or rfl rfl rfl) ?_
  refine RL.p rfl rfl rfl (PV_assign rfl rfl) ?_
  refine RL.done (nxt ?_)
  repeat first | apply W.seq | apply W.region
  exact W.ret (ret_tmp rfl rfl ⟨_, rfl, rfl, hs⟩)

theorem C129 (hs : Sat G M I w) : Calls Tryz.prog 129 #[] w (Ret fun r w' => r = aggL (w32 k256) ∧ Sat G M I w') := by
  refine enter0 Tryz.func129 rfl Tryz.ntmps129 ?_
  repeat first | apply W.seq | apply W.region
  refine RL.e rfl rfl rfl (EF_allocA rfl zr156 hs) ?_
  rintro r1 w1 ⟨b0, rfl, hs1⟩
  refine RL.done (nxt ?_)
  repeat first | apply W.seq | apply W.region
  refine RL.p rfl rfl rfl (PV_arr (ops := ((List.map (fun n => Operand.const (.int .u32 n)) [1116352408, 1899447441, 3049323471, 3921009573, 961987163, 1508970993, 2453635748, 2870763221, 3624381080, 310598401, 607225278, 1426881987, 1925078388, 2162078206, 2614888103, 3248222580, 3835390401, 4022224774, 264347078, 604807628, 770255983, 1249150122, 1555081692, 1996064986, 2554220882, 2821834349, 2952996808, 3210313671, 3336571891, 3584528711, 113926993, 338241895, 666307205, 773529912, 1294757372, 1396182291, 1695183700, 1986661051, 2177026350, 2456956037, 2730485921, 2820302411, 3259730800, 3345764771, 3516065817, 3600352804, 4094571909, 275423344, 430227734, 506948616, 659060556, 883997877, 958139571, 1322822218, 1537002063, 1747873779, 1955562222, 2024104815, 2227730452, 2361852424, 2428436474, 2756734187, 3204031479, 3329325298]))) (vs := w32 k256) rfl rfl Tryz.underlying156 sz153 zr156 (by kernel_rfl) rfl (one1_w32 _)) ?_
  refine RL.e0 rfl rfl (EF_storeA (cs := zl156) rfl rfl rfl sz156 rfl (one1_w32 _) hs1 (by first | exact u0 | exact u1 | exact u2 | exact u3 | exact u4 | exact u5 | exact u0.app | exact u1.app | exact u2.app | exact u3.app)) ?_
  rintro r2 w2 hs2
  refine RL.done (nxt ?_)
  repeat first | apply W.seq | apply W.region
  exact W.ret (ret_cell rfl rfl (ldA ag156 sz156 hs2 (by first | exact m0 | exact m1 | exact m2 | exact m3 | exact m4 | exact m5 | exact mapp m0 | exact mapp m1 | exact hm) rfl) ⟨_, rfl, rfl, hs2.tail⟩)

theorem C130 {bk bb off c m : Nat} {s : List UInt32} {l : List UInt8} (h8 : s.length = 8) (hk : (bk, w32 k256, 156) ∈ M) (hl : 64 ≤ l.length) (hm : m = 64) (hmem : Mem G M I bb off (bcells l)) (hs : Sat G M I w) : Calls Tryz.prog 130 #[aggL (w32 s), .slice (some ⟨bb, off, none⟩) m c, ptr bk 0] w (Ret fun r w' => r = aggL (w32 (blk s l)) ∧ Sat G M I w') := by
  subst hm
  refine enter3 Tryz.func130 rfl Tryz.ntmps130 rfl ?_
  repeat first | apply W.seq | apply W.region
  refine RL.e rfl rfl rfl (EF_boxA rfl rfl hs) ?_
  rintro r1 w1 ⟨b3, rfl, hs1⟩
  refine RL.e rfl rfl rfl (EF_allocA rfl zr154 hs1) ?_
  rintro r2 w2 ⟨b6, rfl, hs2⟩
  refine RL.done (nxt ?_)
  repeat first | apply W.seq | apply W.region
  refine RL.e rfl rfl rfl (EF_allocA rfl zr156 hs2) ?_
  rintro r3 w3 ⟨b7, rfl, hs3⟩
  refine RL.done (nxt ?_)
  repeat first | apply W.seq | apply W.region
  refine RL.p rfl rfl rfl (PV_assign rfl rfl) ?_
  refine RL.done (nxt ?_)
  repeat first | apply W.seq | apply W.region
  refine W.block ?_
  repeat first | apply W.seq | apply W.region
  refine W.loop (F := fun x : Nat => [(8, .int .i64 (x : Int)), (7, ptr b7 0), (6, ptr b6 0), (3, ptr b3 0), (1, .slice (some ⟨bb, off, none⟩) 64 c), (2, ptr bk 0)]) (J := fun x w => x ≤ 16 ∧ Sat G ((b7, wcells l x, 156) :: (b6, zl154, 154) :: (b3, w32 s, 154) :: M) I w) (m := fun x => 16 - x) 0 (by repeat first | exact Sub.nil | refine Sub.cons rfl ?_) ⟨by omega, by rw [wcells_zero]; exact hs3⟩ ?_
  rintro x w4 ⟨hx, hs4⟩
  repeat first | apply W.seq | apply W.region
  refine RL.p rfl rfl rfl (PV_move rfl rfl) ?_
  refine RL.p rfl rfl rfl (PV_lss rfl rfl rfl) ?_
  refine RL.done (nxt ?_)
  repeat first | apply W.seq | apply W.region
  refine W.cond rfl (fun h1 => ?_) (fun h1 => ?_)
  ·
    have hx1 : x < 16 := by have := of_decide_eq_true h1; omega
    refine W.skip (nxt ?_)
    repeat first | apply W.seq | apply W.region
    refine W.block ?_
    repeat first | apply W.seq | apply W.region
    refine W.drawsH hs4 [(0, true), (1, true), (2, true), (3, true), (4, true), (5, true), (6, true), (7, true), (8, true), (9, true), (10, true), (11, true), (12, true), (13, true), (14, true), (15, true), (16, true), (17, true), (18, true), (19, true), (20, true), (21, true), (22, true), (23, true), (24, true), (25, true), (26, true), (27, false), (28, false), (29, false), (30, false), (31, false), (32, false), (33, false), (34, false), (35, false)] mixed (by kernel_rfl) (by kernel_rfl) ?_
    have hs5 := hs4.drew
    refine TW.p rfl rfl rfl rfl (PV_move rfl rfl) hs5 ?_
    refine TW.p rfl rfl rfl rfl (PV_move rfl rfl) hs5 ?_
    refine TW.p rfl rfl rfl rfl (PV_move rfl rfl) hs5 ?_
    refine TW.p rfl rfl rfl rfl (PV_mul rfl rfl rfl (by omega)) hs5 ?_
    refine TW.p rfl rfl rfl rfl (PV_indexAddr1 (4 * x) rfl Tryz.underlying60 sz5 rfl rfl rfl (by omega)) hs5 ?_
    refine TW.s rfl rfl rfl rfl (PV_loadMem1 rfl ag5 rfl (fun _ h => h.tail.tail.tail) hmem (bc_get (by omega))) hs5 ?_
    refine TW.p rfl rfl rfl rfl (PV_conv_u8_u32 rfl Tryz.underlying5 Tryz.underlying153 rfl) hs5 ?_
    refine TW.p rfl rfl rfl rfl (PV_u32_shl rfl rfl rfl rfl (by decide)) hs5 ?_
    refine TW.p rfl rfl rfl rfl (PV_move rfl rfl) hs5 ?_
    refine TW.p rfl rfl rfl rfl (PV_move rfl rfl) hs5 ?_
    refine TW.p rfl rfl rfl rfl (PV_mul rfl rfl rfl (by omega)) hs5 ?_
    refine TW.p rfl rfl rfl rfl (PV_add rfl rfl rfl (by omega)) hs5 ?_
    refine TW.p rfl rfl rfl rfl (PV_indexAddr1 (4 * x + 1) rfl Tryz.underlying60 sz5 rfl rfl rfl (by omega)) hs5 ?_
    refine TW.s rfl rfl rfl rfl (PV_loadMem1 rfl ag5 rfl (fun _ h => h.tail.tail.tail) hmem (bc_get (by omega))) hs5 ?_
    refine TW.p rfl rfl rfl rfl (PV_conv_u8_u32 rfl Tryz.underlying5 Tryz.underlying153 rfl) hs5 ?_
    refine TW.p rfl rfl rfl rfl (PV_u32_shl rfl rfl rfl rfl (by decide)) hs5 ?_
    refine TW.p rfl rfl rfl rfl (PV_u32_or rfl rfl rfl) hs5 ?_
    refine TW.p rfl rfl rfl rfl (PV_move rfl rfl) hs5 ?_
    refine TW.p rfl rfl rfl rfl (PV_move rfl rfl) hs5 ?_
    refine TW.p rfl rfl rfl rfl (PV_mul rfl rfl rfl (by omega)) hs5 ?_
    refine TW.p rfl rfl rfl rfl (PV_add rfl rfl rfl (by omega)) hs5 ?_
    refine TW.p rfl rfl rfl rfl (PV_indexAddr1 (4 * x + 2) rfl Tryz.underlying60 sz5 rfl rfl rfl (by omega)) hs5 ?_
    refine TW.s rfl rfl rfl rfl (PV_loadMem1 rfl ag5 rfl (fun _ h => h.tail.tail.tail) hmem (bc_get (by omega))) hs5 ?_
    refine TW.p rfl rfl rfl rfl (PV_conv_u8_u32 rfl Tryz.underlying5 Tryz.underlying153 rfl) hs5 ?_
    refine TW.p rfl rfl rfl rfl (PV_u32_shl rfl rfl rfl rfl (by decide)) hs5 ?_
    refine TW.p rfl rfl rfl rfl (PV_u32_or rfl rfl rfl) hs5 ?_
    refine TW.p rfl rfl rfl rfl (PV_move rfl rfl) hs5 ?_
    refine TW.q rfl rfl rfl rfl (T := fun _ => True) (PV_move rfl rfl) trivial (fun _ => hs5) ?_
    refine TW.q rfl rfl rfl rfl (T := fun _ => True) (PV_mul rfl rfl rfl (by omega)) trivial (fun _ => hs5) ?_
    refine TW.q rfl rfl rfl rfl (T := fun _ => True) (PV_add rfl rfl rfl (by omega)) trivial (fun _ => hs5) ?_
    refine TW.q rfl rfl rfl rfl (T := fun _ => True) (PV_indexAddr1 (4 * x + 3) rfl Tryz.underlying60 sz5 rfl rfl rfl (by omega)) trivial (fun _ => hs5) ?_
    refine TW.q rfl rfl rfl rfl (PV_loadMem1 rfl ag5 rfl (fun _ h => h.tail.tail.tail) hmem (bc_get (by omega))) hs5 (fun _ => hs5) ?_
    refine TW.q rfl rfl rfl rfl (T := fun _ => True) (PV_conv_u8_u32 rfl Tryz.underlying5 Tryz.underlying153 rfl) trivial (fun _ => hs5) ?_
    refine TW.q rfl rfl rfl rfl (T := fun _ => True) (PV_u32_or rfl rfl rfl) trivial (fun _ => hs5) ?_
    refine TW.qn rfl rfl rfl rfl (T := fun _ => True) (PV_indexArr1 x rfl Tryz.underlying156 sz153 rfl rfl rfl (by omega)) trivial (by kernel_rfl) ?_
    refine TW.en0 rfl rfl rfl (by kernel_rfl) (EF_storeC (cs := wcells l x) rfl rfl rfl sz153 rfl (by rw [length_wcells (by omega)]; omega) (wcells_set (by omega) (by rw [nextW, if_pos hx1]; rfl)) hs5 (by first | exact u0 | exact u1 | exact u2 | exact u3 | exact u4 | exact u5 | exact u0.app | exact u1.app | exact u2.app | exact u3.app)) ?_
    rintro r6 w6 hs6
    refine TW.done (nxt ?_)
    repeat first | apply W.seq | apply W.region
    refine RL.p rfl rfl rfl (PV_move rfl rfl) ?_
    refine RL.p rfl rfl rfl (PV_add rfl rfl rfl (by omega)) ?_
    refine RL.p rfl rfl rfl (PV_assign rfl rfl) ?_
    refine RL.done (round_end (x + 1) ?_ ?_ ?_)
    · repeat first | exact Sub.nil | refine Sub.cons rfl ?_
    · exact ⟨by omega, hs6⟩
    · first | omega | (dsimp only; omega)
  repeat first | apply W.seq | apply W.region
  refine  W.exit (nxt ?_)
  obtain rfl : x = 16 := by have := of_decide_eq_false h1; omega
  repeat first | apply W.seq | apply W.region
  refine RL.p rfl rfl rfl (PV_assign rfl rfl) ?_
  refine RL.done (nxt ?_)
  repeat first | apply W.seq | apply W.region
  refine W.block ?_
  repeat first | apply W.seq | apply W.region
  refine W.loop (F := fun x : Nat => [(9, .int .i64 (x : Int)), (7, ptr b7 0), (6, ptr b6 0), (3, ptr b3 0), (2, ptr bk 0)]) (J := fun x w => 16 ≤ x ∧ x ≤ 64 ∧ Sat G ((b7, wcells l x, 156) :: (b6, zl154, 154) :: (b3, w32 s, 154) :: M) I w) (m := fun x => 64 - x) 16 (by repeat first | exact Sub.nil | refine Sub.cons rfl ?_) ⟨by omega, by omega, hs4⟩ ?_
  rintro x w5 ⟨hx0, hx, hs5⟩
  repeat first | apply W.seq | apply W.region
  refine RL.p rfl rfl rfl (PV_move rfl rfl) ?_
  refine RL.p rfl rfl rfl (PV_lss rfl rfl rfl) ?_
  refine RL.done (nxt ?_)
  repeat first | apply W.seq | apply W.region
  refine W.cond rfl (fun h2 => ?_) (fun h2 => ?_)
  ·
    have hx1 : x < 64 := by have := of_decide_eq_true h2; omega
    refine W.skip (nxt ?_)
    repeat first | apply W.seq | apply W.region
    refine W.block ?_
    repeat first | apply W.seq | apply W.region
    refine RL.p rfl rfl rfl (PV_move rfl rfl) ?_
    refine RL.p rfl rfl rfl (PV_sub rfl rfl rfl (by omega)) ?_
    refine RL.p rfl rfl rfl (PV_indexArr1 (x - 15) rfl Tryz.underlying156 sz153 rfl rfl (by omega) (by omega)) ?_
    refine RL.s rfl rfl rfl (PV_loadM1 rfl ag153 rfl (by first | exact m0 | exact m1 | exact m2 | exact m3 | exact m4 | exact m5 | exact mapp m0 | exact mapp m1 | exact mapp m2 | exact mapp m3) (by first | exact w32_get (by omega) | exact wcells_get (by omega) | exact bc_get (by omega) | exact tc_34 | exact tc_35 | exact tc_36 | exact tc_0 | exact tc_1 | rfl)) hs5 ?_
    refine RL.p rfl rfl rfl (PV_assign rfl rfl) ?_
    refine RL.done (nxt ?_)
    repeat first | apply W.seq | apply W.region
    refine RL.p rfl rfl rfl (PV_move rfl rfl) ?_
    refine RL.p rfl rfl rfl (PV_sub rfl rfl rfl (by omega)) ?_
    refine RL.p rfl rfl rfl (PV_indexArr1 (x - 2) rfl Tryz.underlying156 sz153 rfl rfl (by omega) (by omega)) ?_
    refine RL.s rfl rfl rfl (PV_loadM1 rfl ag153 rfl (by first | exact m0 | exact m1 | exact m2 | exact m3 | exact m4 | exact m5 | exact mapp m0 | exact mapp m1 | exact mapp m2 | exact mapp m3) (by first | exact w32_get (by omega) | exact wcells_get (by omega) | exact bc_get (by omega) | exact tc_34 | exact tc_35 | exact tc_36 | exact tc_0 | exact tc_1 | rfl)) hs5 ?_
    refine RL.p rfl rfl rfl (PV_assign rfl rfl) ?_
    refine RL.done (nxt ?_)
    repeat first | apply W.seq | apply W.region
    refine W.drawsH hs5 [(0, true), (1, true), (2, true), (3, true), (4, true), (5, true), (7, true), (10, true), (11, true), (14, true), (15, true), (16, true), (17, true), (19, true), (21, true), (24, true), (25, true), (6, false), (8, false), (9, true), (12, true), (13, true), (18, true), (20, false), (22, false), (23, false), (26, false), (27, false), (28, false), (29, false)] mixed (by kernel_rfl) (by kernel_rfl) ?_
    have hs6 := hs5.drew
    refine TW.p rfl rfl rfl rfl (PV_move rfl rfl) hs6 ?_
    refine TW.p rfl rfl rfl rfl (PV_move rfl rfl) hs6 ?_
    refine TW.p rfl rfl rfl rfl (PV_sub rfl rfl rfl (by omega)) hs6 ?_
    refine TW.p rfl rfl rfl rfl (PV_indexArr1 (x - 16) rfl Tryz.underlying156 sz153 rfl rfl (by omega) (by omega)) hs6 ?_
    refine TW.s rfl rfl rfl rfl (PV_loadM1 rfl ag153 rfl (by first | exact m0 | exact m1 | exact m2 | exact m3 | exact m4 | exact m5 | exact mapp m0 | exact mapp m1 | exact mapp m2 | exact mapp m3) (by first | exact w32_get (by omega) | exact wcells_get (by omega) | exact bc_get (by omega) | exact tc_34 | exact tc_35 | exact tc_36 | exact tc_0 | exact tc_1 | rfl)) hs6 ?_
    refine TW.p rfl rfl rfl rfl (PV_move rfl rfl) hs6 ?_
    refine TW.p rfl rfl rfl rfl (PV_move rfl rfl) hs6 ?_
    refine TW.p rfl rfl rfl rfl (PV_move rfl rfl) hs6 ?_
    refine TW.p rfl rfl rfl rfl (PV_u32_shr rfl rfl rfl rfl (by decide)) hs6 ?_
    refine TW.p rfl rfl rfl rfl (PV_move rfl rfl) hs6 ?_
    refine TW.p rfl rfl rfl rfl (PV_sub rfl rfl rfl (by omega)) hs6 ?_
    refine TW.p rfl rfl rfl rfl (PV_indexArr1 (x - 7) rfl Tryz.underlying156 sz153 rfl rfl (by omega) (by omega)) hs6 ?_
    refine TW.s rfl rfl rfl rfl (PV_loadM1 rfl ag153 rfl (by first | exact m0 | exact m1 | exact m2 | exact m3 | exact m4 | exact m5 | exact mapp m0 | exact mapp m1 | exact mapp m2 | exact mapp m3) (by first | exact w32_get (by omega) | exact wcells_get (by omega) | exact bc_get (by omega) | exact tc_34 | exact tc_35 | exact tc_36 | exact tc_0 | exact tc_1 | rfl)) hs6 ?_
    refine TW.p rfl rfl rfl rfl (PV_move rfl rfl) hs6 ?_
    refine TW.p rfl rfl rfl rfl (PV_move rfl rfl) hs6 ?_
    refine TW.p rfl rfl rfl rfl (PV_move rfl rfl) hs6 ?_
    refine TW.p rfl rfl rfl rfl (PV_u32_shr rfl rfl rfl rfl (by decide)) hs6 ?_
    refine TW.e rfl rfl rfl rfl (K2 rfl fn153 rfl rfl (C153 rfl (by decide) (by decide) hs6)) ?_
    rintro r7 w7 ⟨rfl, hs7⟩
    refine ⟨hs7, ?_⟩
    refine TW.e rfl rfl rfl rfl (K2 rfl fn153 rfl rfl (C153 rfl (by decide) (by decide) hs7)) ?_
    rintro r8 w8 ⟨rfl, hs8⟩
    refine ⟨hs8, ?_⟩
    refine TW.p rfl rfl rfl rfl (PV_u32_xor rfl rfl rfl) hs8 ?_
    refine TW.p rfl rfl rfl rfl (PV_u32_xor rfl rfl rfl) hs8 ?_
    refine TW.p rfl rfl rfl rfl (PV_u32_add rfl rfl rfl) hs8 ?_
    refine TW.p rfl rfl rfl rfl (PV_u32_add rfl rfl rfl) hs8 ?_
    refine TW.e rfl rfl rfl rfl (K2 rfl fn153 rfl rfl (C153 rfl (by decide) (by decide) hs8)) ?_
    rintro r9 w9 ⟨rfl, hs9⟩
    refine ⟨hs9, ?_⟩
    refine TW.e rfl rfl rfl rfl (K2 rfl fn153 rfl rfl (C153 rfl (by decide) (by decide) hs9)) ?_
    rintro r10 w10 ⟨rfl, hs10⟩
    refine ⟨hs10, ?_⟩
    refine TW.q rfl rfl rfl rfl (T := fun _ => True) (PV_u32_xor rfl rfl rfl) trivial (fun _ => hs10) ?_
    refine TW.q rfl rfl rfl rfl (T := fun _ => True) (PV_u32_xor rfl rfl rfl) trivial (fun _ => hs10) ?_
    refine TW.q rfl rfl rfl rfl (T := fun _ => True) (PV_u32_add rfl rfl rfl) trivial (fun _ => hs10) ?_
    refine TW.qn rfl rfl rfl rfl (T := fun _ => True) (PV_indexArr1 (x) rfl Tryz.underlying156 sz153 rfl rfl (by omega) (by omega)) trivial (by kernel_rfl) ?_
    refine TW.en0 rfl rfl rfl (by kernel_rfl) (EF_storeC (cs := wcells l x) rfl rfl rfl sz153 rfl (by rw [length_wcells (by omega)]; omega) (wcells_set (by omega) (by rw [nextW, if_neg (by omega)]; rfl)) hs10 (by first | exact u0 | exact u1 | exact u2 | exact u3 | exact u4 | exact u5 | exact u0.app | exact u1.app | exact u2.app | exact u3.app)) ?_
    rintro r11 w11 hs11
    refine TW.done (nxt ?_)
    repeat first | apply W.seq | apply W.region
    refine RL.p rfl rfl rfl (PV_move rfl rfl) ?_
    refine RL.p rfl rfl rfl (PV_add rfl rfl rfl (by omega)) ?_
    refine RL.p rfl rfl rfl (PV_assign rfl rfl) ?_
    refine RL.done (round_end (x + 1) ?_ ?_ ?_)
    · repeat first | exact Sub.nil | refine Sub.cons rfl ?_
    · exact ⟨by omega, by omega, hs11⟩
    · first | omega | (dsimp only; omega)
  repeat first | apply W.seq | apply W.region
  refine  W.exit (nxt ?_)
  obtain rfl : x = 64 := by have := of_decide_eq_false h2; omega
  repeat first | apply W.seq | apply W.region
  refine RL.s rfl rfl rfl (PV_loadMA rfl ag154 sz154 rfl m2 (by rw [length_w32, h8]; decide) (part_whole (by rw [length_w32, h8]))) hs5 ?_
  refine RL.e rfl rfl rfl (EF_allocA rfl zr154 hs5) ?_
  rintro r6 w6 ⟨b12, rfl, hs6⟩
  refine RL.e0 rfl rfl (EF_storeA (cs := zl154) rfl rfl rfl sz154 (by rw [length_w32, h8]; rfl) (one1_w32 _) hs6 (by first | exact u0 | exact u1 | exact u2 | exact u3 | exact u4 | exact u5 | exact u0.app | exact u1.app | exact u2.app | exact u3.app)) ?_
  rintro r7 w7 hs7
  refine RL.done (nxt ?_)
  repeat first | apply W.seq | apply W.region
  refine RL.p rfl rfl rfl (PV_assign rfl rfl) ?_
  refine RL.done (nxt ?_)
  repeat first | apply W.seq | apply W.region
  refine W.block ?_
  repeat first | apply W.seq | apply W.region
  refine W.loop (F := fun x : Nat => [(13, .int .i64 (x : Int)), (12, ptr b12 0), (7, ptr b7 0), (6, ptr b6 0), (3, ptr b3 0), (2, ptr bk 0)]) (J := fun x w => x ≤ 64 ∧ Sat G ((b12, w32 (rnds l s x), 154) :: (b7, wcells l 64, 156) :: (b6, zl154, 154) :: (b3, w32 s, 154) :: M) I w) (m := fun x => 64 - x) 0 (by repeat first | exact Sub.nil | refine Sub.cons rfl ?_) ⟨by omega, by rw [rnds_zero]; exact hs7⟩ ?_
  rintro x w8 ⟨hx, hs8⟩
  repeat first | apply W.seq | apply W.region
  refine RL.p rfl rfl rfl (PV_move rfl rfl) ?_
  refine RL.p rfl rfl rfl (PV_lss rfl rfl rfl) ?_
  refine RL.done (nxt ?_)
  repeat first | apply W.seq | apply W.region
  refine W.cond rfl (fun h3 => ?_) (fun h3 => ?_)
  ·
    have hx1 : x < 64 := by have := of_decide_eq_true h3; omega
    have hr : (rnds l s x).length = 8 := length_rnds l s h8 x
    refine W.skip (nxt ?_)
    repeat first | apply W.seq | apply W.region
    refine W.block ?_
    repeat first | apply W.seq | apply W.region
    refine W.drawsH hs8 [(0, true), (1, true), (2, true), (3, true), (4, false), (5, false)] mixed (by kernel_rfl) (by kernel_rfl) ?_
    have hs9 := hs8.drew
    refine TW.p rfl rfl rfl rfl (PV_indexArr1 0 rfl Tryz.underlying154 sz153 rfl rfl rfl (by decide)) hs9 ?_
    refine TW.s rfl rfl rfl rfl (PV_loadM1 rfl ag153 rfl (by first | exact m0 | exact m1 | exact m2 | exact m3 | exact m4 | exact m5 | exact mapp m0 | exact mapp m1 | exact mapp m2 | exact mapp m3) (by first | exact w32_get (by omega) | exact wcells_get (by omega) | exact bc_get (by omega) | exact tc_34 | exact tc_35 | exact tc_36 | exact tc_0 | exact tc_1 | rfl)) hs9 ?_
    refine TW.p rfl rfl rfl rfl (PV_indexArr1 4 rfl Tryz.underlying154 sz153 rfl rfl rfl (by decide)) hs9 ?_
    refine TW.s rfl rfl rfl rfl (PV_loadM1 rfl ag153 rfl (by first | exact m0 | exact m1 | exact m2 | exact m3 | exact m4 | exact m5 | exact mapp m0 | exact mapp m1 | exact mapp m2 | exact mapp m3) (by first | exact w32_get (by omega) | exact wcells_get (by omega) | exact bc_get (by omega) | exact tc_34 | exact tc_35 | exact tc_36 | exact tc_0 | exact tc_1 | rfl)) hs9 ?_
    refine TW.q rfl rfl rfl rfl (T := fun _ => True) (PV_assign rfl rfl) trivial (fun _ => hs9) ?_
    refine TW.qn rfl rfl rfl rfl (T := fun _ => True) (PV_assign rfl rfl) trivial (by kernel_rfl) ?_
    refine TW.done (nxt ?_)
    repeat first | apply W.seq | apply W.region
    refine W.drawsH hs9 [(0, true), (1, true), (2, true), (4, true), (7, true), (11, true), (12, true), (13, true), (14, true), (15, true), (16, true), (17, true), (18, true), (19, true), (20, true), (22, true), (23, true), (24, true), (25, true), (26, true), (28, true), (29, true), (30, true), (3, false), (5, false), (6, true), (8, false), (9, false), (10, false), (21, false), (27, false), (31, false), (32, false)] mixed (by kernel_rfl) (by kernel_rfl) ?_
    have hs10 := hs9.drew
    refine TW.p rfl rfl rfl rfl (PV_indexArr1 7 rfl Tryz.underlying154 sz153 rfl rfl rfl (by decide)) hs10 ?_
    refine TW.s rfl rfl rfl rfl (PV_loadM1 rfl ag153 rfl (by first | exact m0 | exact m1 | exact m2 | exact m3 | exact m4 | exact m5 | exact mapp m0 | exact mapp m1 | exact mapp m2 | exact mapp m3) (by first | exact w32_get (by omega) | exact wcells_get (by omega) | exact bc_get (by omega) | exact tc_34 | exact tc_35 | exact tc_36 | exact tc_0 | exact tc_1 | rfl)) hs10 ?_
    refine TW.p rfl rfl rfl rfl (PV_move rfl rfl) hs10 ?_
    refine TW.p rfl rfl rfl rfl (PV_move rfl rfl) hs10 ?_
    refine TW.p rfl rfl rfl rfl (PV_move rfl rfl) hs10 ?_
    refine TW.p rfl rfl rfl rfl (PV_move rfl rfl) hs10 ?_
    refine TW.p rfl rfl rfl rfl (PV_indexArr1 5 rfl Tryz.underlying154 sz153 rfl rfl rfl (by decide)) hs10 ?_
    refine TW.s rfl rfl rfl rfl (PV_loadM1 rfl ag153 rfl (by first | exact m0 | exact m1 | exact m2 | exact m3 | exact m4 | exact m5 | exact mapp m0 | exact mapp m1 | exact mapp m2 | exact mapp m3) (by first | exact w32_get (by omega) | exact wcells_get (by omega) | exact bc_get (by omega) | exact tc_34 | exact tc_35 | exact tc_36 | exact tc_0 | exact tc_1 | rfl)) hs10 ?_
    refine TW.p rfl rfl rfl rfl (PV_u32_and rfl rfl rfl) hs10 ?_
    refine TW.p rfl rfl rfl rfl (PV_move rfl rfl) hs10 ?_
    refine TW.p rfl rfl rfl rfl (PV_u32_not rfl rfl) hs10 ?_
    refine TW.p rfl rfl rfl rfl (PV_indexArr1 6 rfl Tryz.underlying154 sz153 rfl rfl rfl (by decide)) hs10 ?_
    refine TW.s rfl rfl rfl rfl (PV_loadM1 rfl ag153 rfl (by first | exact m0 | exact m1 | exact m2 | exact m3 | exact m4 | exact m5 | exact mapp m0 | exact mapp m1 | exact mapp m2 | exact mapp m3) (by first | exact w32_get (by omega) | exact wcells_get (by omega) | exact bc_get (by omega) | exact tc_34 | exact tc_35 | exact tc_36 | exact tc_0 | exact tc_1 | rfl)) hs10 ?_
    refine TW.p rfl rfl rfl rfl (PV_u32_and rfl rfl rfl) hs10 ?_
    refine TW.p rfl rfl rfl rfl (PV_u32_xor rfl rfl rfl) hs10 ?_
    refine TW.p rfl rfl rfl rfl (PV_move rfl rfl) hs10 ?_
    refine TW.p rfl rfl rfl rfl (PV_move rfl rfl) hs10 ?_
    refine TW.p rfl rfl rfl rfl (PV_nilCheckP rfl rfl) hs10 ?_
    refine TW.p rfl rfl rfl rfl (PV_indexArr1 x rfl Tryz.underlying156 sz153 rfl rfl rfl (by omega)) hs10 ?_
    refine TW.s rfl rfl rfl rfl (PV_loadM1 rfl ag153 rfl (List.mem_cons_of_mem _ (List.mem_cons_of_mem _ (List.mem_cons_of_mem _ (List.mem_cons_of_mem _ hk)))) (w32_get (by show x < 64; omega))) hs10 ?_
    refine TW.p rfl rfl rfl rfl (PV_move rfl rfl) hs10 ?_
    refine TW.p rfl rfl rfl rfl (PV_indexArr1 x rfl Tryz.underlying156 sz153 rfl rfl rfl (by omega)) hs10 ?_
    refine TW.s rfl rfl rfl rfl (PV_loadM1 rfl ag153 rfl (by first | exact m0 | exact m1 | exact m2 | exact m3 | exact m4 | exact m5 | exact mapp m0 | exact mapp m1 | exact mapp m2 | exact mapp m3) (by first | exact w32_get (by omega) | exact wcells_get (by omega) | exact bc_get (by omega) | exact tc_34 | exact tc_35 | exact tc_36 | exact tc_0 | exact tc_1 | rfl)) hs10 ?_
    refine TW.e rfl rfl rfl rfl (K2 rfl fn153 rfl rfl (C153 rfl (by decide) (by decide) hs10)) ?_
    rintro r11 w11 ⟨rfl, hs11⟩
    refine ⟨hs11, ?_⟩
    refine TW.e rfl rfl rfl rfl (K2 rfl fn153 rfl rfl (C153 rfl (by decide) (by decide) hs11)) ?_
    rintro r12 w12 ⟨rfl, hs12⟩
    refine ⟨hs12, ?_⟩
    refine TW.p rfl rfl rfl rfl (PV_u32_xor rfl rfl rfl) hs12 ?_
    refine TW.e rfl rfl rfl rfl (K2 rfl fn153 rfl rfl (C153 rfl (by decide) (by decide) hs12)) ?_
    rintro r13 w13 ⟨rfl, hs13⟩
    refine ⟨hs13, ?_⟩
    refine TW.q rfl rfl rfl rfl (T := fun _ => True) (PV_u32_xor rfl rfl rfl) trivial (fun _ => hs13) ?_
    refine TW.q rfl rfl rfl rfl (T := fun _ => True) (PV_u32_add rfl rfl rfl) trivial (fun _ => hs13) ?_
    refine TW.q rfl rfl rfl rfl (T := fun _ => True) (PV_u32_add rfl rfl rfl) trivial (fun _ => hs13) ?_
    refine TW.q rfl rfl rfl rfl (T := fun _ => True) (PV_u32_add rfl rfl rfl) trivial (fun _ => hs13) ?_
    refine TW.q rfl rfl rfl rfl (T := fun _ => True) (PV_u32_add rfl rfl rfl) trivial (fun _ => hs13) ?_
    refine TW.qn rfl rfl rfl rfl (T := fun _ => True) (PV_assign rfl rfl) trivial (by kernel_rfl) ?_
    refine TW.done (nxt ?_)
    repeat first | apply W.seq | apply W.region
    refine W.drawsH hs13 [(0, true), (2, true), (5, true), (8, true), (9, true), (10, true), (11, true), (12, true), (13, true), (14, true), (15, true), (16, true), (17, true), (18, true), (19, true), (20, true), (21, true), (22, true), (1, false), (3, false), (4, true), (6, false), (7, false), (23, false), (24, false)] mixed (by kernel_rfl) (by kernel_rfl) ?_
    have hs14 := hs13.drew
    refine TW.p rfl rfl rfl rfl (PV_move rfl rfl) hs14 ?_
    refine TW.p rfl rfl rfl rfl (PV_move rfl rfl) hs14 ?_
    refine TW.p rfl rfl rfl rfl (PV_move rfl rfl) hs14 ?_
    refine TW.p rfl rfl rfl rfl (PV_move rfl rfl) hs14 ?_
    refine TW.p rfl rfl rfl rfl (PV_indexArr1 1 rfl Tryz.underlying154 sz153 rfl rfl rfl (by decide)) hs14 ?_
    refine TW.s rfl rfl rfl rfl (PV_loadM1 rfl ag153 rfl (by first | exact m0 | exact m1 | exact m2 | exact m3 | exact m4 | exact m5 | exact mapp m0 | exact mapp m1 | exact mapp m2 | exact mapp m3) (by first | exact w32_get (by omega) | exact wcells_get (by omega) | exact bc_get (by omega) | exact tc_34 | exact tc_35 | exact tc_36 | exact tc_0 | exact tc_1 | rfl)) hs14 ?_
    refine TW.p rfl rfl rfl rfl (PV_u32_and rfl rfl rfl) hs14 ?_
    refine TW.p rfl rfl rfl rfl (PV_move rfl rfl) hs14 ?_
    refine TW.p rfl rfl rfl rfl (PV_indexArr1 2 rfl Tryz.underlying154 sz153 rfl rfl rfl (by decide)) hs14 ?_
    refine TW.s rfl rfl rfl rfl (PV_loadM1 rfl ag153 rfl (by first | exact m0 | exact m1 | exact m2 | exact m3 | exact m4 | exact m5 | exact mapp m0 | exact mapp m1 | exact mapp m2 | exact mapp m3) (by first | exact w32_get (by omega) | exact wcells_get (by omega) | exact bc_get (by omega) | exact tc_34 | exact tc_35 | exact tc_36 | exact tc_0 | exact tc_1 | rfl)) hs14 ?_
    refine TW.p rfl rfl rfl rfl (PV_u32_and rfl rfl rfl) hs14 ?_
    refine TW.p rfl rfl rfl rfl (PV_u32_xor rfl rfl rfl) hs14 ?_
    refine TW.p rfl rfl rfl rfl (PV_indexArr1 1 rfl Tryz.underlying154 sz153 rfl rfl rfl (by decide)) hs14 ?_
    refine TW.s rfl rfl rfl rfl (PV_loadM1 rfl ag153 rfl (by first | exact m0 | exact m1 | exact m2 | exact m3 | exact m4 | exact m5 | exact mapp m0 | exact mapp m1 | exact mapp m2 | exact mapp m3) (by first | exact w32_get (by omega) | exact wcells_get (by omega) | exact bc_get (by omega) | exact tc_34 | exact tc_35 | exact tc_36 | exact tc_0 | exact tc_1 | rfl)) hs14 ?_
    refine TW.p rfl rfl rfl rfl (PV_indexArr1 2 rfl Tryz.underlying154 sz153 rfl rfl rfl (by decide)) hs14 ?_
    refine TW.s rfl rfl rfl rfl (PV_loadM1 rfl ag153 rfl (by first | exact m0 | exact m1 | exact m2 | exact m3 | exact m4 | exact m5 | exact mapp m0 | exact mapp m1 | exact mapp m2 | exact mapp m3) (by first | exact w32_get (by omega) | exact wcells_get (by omega) | exact bc_get (by omega) | exact tc_34 | exact tc_35 | exact tc_36 | exact tc_0 | exact tc_1 | rfl)) hs14 ?_
    refine TW.p rfl rfl rfl rfl (PV_u32_and rfl rfl rfl) hs14 ?_
    refine TW.p rfl rfl rfl rfl (PV_u32_xor rfl rfl rfl) hs14 ?_
    refine TW.e rfl rfl rfl rfl (K2 rfl fn153 rfl rfl (C153 rfl (by decide) (by decide) hs14)) ?_
    rintro r15 w15 ⟨rfl, hs15⟩
    refine ⟨hs15, ?_⟩
    refine TW.e rfl rfl rfl rfl (K2 rfl fn153 rfl rfl (C153 rfl (by decide) (by decide) hs15)) ?_
    rintro r16 w16 ⟨rfl, hs16⟩
    refine ⟨hs16, ?_⟩
    refine TW.p rfl rfl rfl rfl (PV_u32_xor rfl rfl rfl) hs16 ?_
    refine TW.e rfl rfl rfl rfl (K2 rfl fn153 rfl rfl (C153 rfl (by decide) (by decide) hs16)) ?_
    rintro r17 w17 ⟨rfl, hs17⟩
    refine ⟨hs17, ?_⟩
    refine TW.q rfl rfl rfl rfl (T := fun _ => True) (PV_u32_xor rfl rfl rfl) trivial (fun _ => hs17) ?_
    refine TW.q rfl rfl rfl rfl (T := fun _ => True) (PV_u32_add rfl rfl rfl) trivial (fun _ => hs17) ?_
    refine TW.qn rfl rfl rfl rfl (T := fun _ => True) (PV_assign rfl rfl) trivial (by kernel_rfl) ?_
    refine TW.done (nxt ?_)
    repeat first | apply W.seq | apply W.region
    refine RL.p rfl rfl rfl (PV_move rfl rfl) ?_
    refine RL.p rfl rfl rfl (PV_move rfl rfl) ?_
    refine RL.p rfl rfl rfl (PV_u32_add rfl rfl rfl) ?_
    refine RL.p rfl rfl rfl (PV_move rfl rfl) ?_
    refine RL.p rfl rfl rfl (PV_indexArr1 1 rfl Tryz.underlying154 sz153 rfl rfl rfl (by decide)) ?_
    refine RL.s rfl rfl rfl (PV_loadM1 rfl ag153 rfl (by first | exact m0 | exact m1 | exact m2 | exact m3 | exact m4 | exact m5 | exact mapp m0 | exact mapp m1 | exact mapp m2 | exact mapp m3) (by first | exact w32_get (by omega) | exact wcells_get (by omega) | exact bc_get (by omega) | exact tc_34 | exact tc_35 | exact tc_36 | exact tc_0 | exact tc_1 | rfl)) hs17 ?_
    refine RL.p rfl rfl rfl (PV_indexArr1 2 rfl Tryz.underlying154 sz153 rfl rfl rfl (by decide)) ?_
    refine RL.s rfl rfl rfl (PV_loadM1 rfl ag153 rfl (by first | exact m0 | exact m1 | exact m2 | exact m3 | exact m4 | exact m5 | exact mapp m0 | exact mapp m1 | exact mapp m2 | exact mapp m3) (by first | exact w32_get (by omega) | exact wcells_get (by omega) | exact bc_get (by omega) | exact tc_34 | exact tc_35 | exact tc_36 | exact tc_0 | exact tc_1 | rfl)) hs17 ?_
    refine RL.p rfl rfl rfl (PV_indexArr1 3 rfl Tryz.underlying154 sz153 rfl rfl rfl (by decide)) ?_
    refine RL.s rfl rfl rfl (PV_loadM1 rfl ag153 rfl (by first | exact m0 | exact m1 | exact m2 | exact m3 | exact m4 | exact m5 | exact mapp m0 | exact mapp m1 | exact mapp m2 | exact mapp m3) (by first | exact w32_get (by omega) | exact wcells_get (by omega) | exact bc_get (by omega) | exact tc_34 | exact tc_35 | exact tc_36 | exact tc_0 | exact tc_1 | rfl)) hs17 ?_
    refine RL.p rfl rfl rfl (PV_move rfl rfl) ?_
    refine RL.p rfl rfl rfl (PV_u32_add rfl rfl rfl) ?_
    refine RL.p rfl rfl rfl (PV_move rfl rfl) ?_
    refine RL.p rfl rfl rfl (PV_indexArr1 5 rfl Tryz.underlying154 sz153 rfl rfl rfl (by decide)) ?_
    refine RL.s rfl rfl rfl (PV_loadM1 rfl ag153 rfl (by first | exact m0 | exact m1 | exact m2 | exact m3 | exact m4 | exact m5 | exact mapp m0 | exact mapp m1 | exact mapp m2 | exact mapp m3) (by first | exact w32_get (by omega) | exact wcells_get (by omega) | exact bc_get (by omega) | exact tc_34 | exact tc_35 | exact tc_36 | exact tc_0 | exact tc_1 | rfl)) hs17 ?_
    refine RL.p rfl rfl rfl (PV_indexArr1 6 rfl Tryz.underlying154 sz153 rfl rfl rfl (by decide)) ?_
    refine RL.s rfl rfl rfl (PV_loadM1 rfl ag153 rfl (by first | exact m0 | exact m1 | exact m2 | exact m3 | exact m4 | exact m5 | exact mapp m0 | exact mapp m1 | exact mapp m2 | exact mapp m3) (by first | exact w32_get (by omega) | exact wcells_get (by omega) | exact bc_get (by omega) | exact tc_34 | exact tc_35 | exact tc_36 | exact tc_0 | exact tc_1 | rfl)) hs17 ?_
    refine RL.p rfl rfl rfl (PV_arr (ops := [.tmp 166, .tmp 167, .tmp 169, .tmp 171, .tmp 175, .tmp 176, .tmp 178, .tmp 180]) (vs := w32 (rnd l (rnds l s x) x)) rfl rfl Tryz.underlying154 sz153 zr154 rfl rfl (one1_w32 _)) ?_
    refine RL.e0 rfl rfl (EF_storeA (cs := w32 (rnds l s x)) rfl rfl rfl (by rw [length_w32, hr]; exact sz154) (by rw [length_w32, length_w32, hr]; rfl) (one1_w32 _) hs17 (by first | exact u0 | exact u1 | exact u2 | exact u3 | exact u4 | exact u5 | exact u0.app | exact u1.app | exact u2.app | exact u3.app)) ?_
    rintro r18 w18 hs18
    refine RL.done (nxt ?_)
    repeat first | apply W.seq | apply W.region
    refine RL.p rfl rfl rfl (PV_move rfl rfl) ?_
    refine RL.p rfl rfl rfl (PV_add rfl rfl rfl (by omega)) ?_
    refine RL.p rfl rfl rfl (PV_assign rfl rfl) ?_
    refine RL.done (round_end (x + 1) ?_ ?_ ?_)
    · repeat first | exact Sub.nil | refine Sub.cons rfl ?_
    · exact ⟨by omega, by rw [rnds_succ]; exact hs18⟩
    · first | omega | (dsimp only; omega)
  repeat first | apply W.seq | apply W.region
  refine  W.exit (nxt ?_)
  obtain rfl : x = 64 := by have := of_decide_eq_false h3; omega
  repeat first | apply W.seq | apply W.region
  refine RL.p rfl rfl rfl (PV_assign rfl rfl) ?_
  refine RL.done (nxt ?_)
  repeat first | apply W.seq | apply W.region
  refine W.block ?_
  repeat first | apply W.seq | apply W.region
  refine W.loop (F := fun x : Nat => [(18, .int .i64 (x : Int)), (12, ptr b12 0), (6, ptr b6 0), (3, ptr b3 0)]) (J := fun x w => x ≤ 8 ∧ Sat G ((b12, w32 (rnds l s 64), 154) :: (b7, wcells l 64, 156) :: (b6, zl154, 154) :: (b3, w32 (addW s (rnds l s 64) x), 154) :: M) I w) (m := fun x => 8 - x) 0 (by repeat first | exact Sub.nil | refine Sub.cons rfl ?_) ⟨by omega, by rw [addW_zero]; exact hs8⟩ ?_
  rintro x w9 ⟨hx, hs9⟩
  repeat first | apply W.seq | apply W.region
  refine RL.p rfl rfl rfl (PV_move rfl rfl) ?_
  refine RL.p rfl rfl rfl (PV_lss rfl rfl rfl) ?_
  refine RL.done (nxt ?_)
  repeat first | apply W.seq | apply W.region
  refine W.cond rfl (fun h4 => ?_) (fun h4 => ?_)
  ·
    have hx1 : x < 8 := by have := of_decide_eq_true h4; omega
    have hr : (rnds l s 64).length = 8 := length_rnds l s h8 64
    have ha : (addW s (rnds l s 64) x).length = 8 := by rw [length_addW, h8]
    refine W.skip (nxt ?_)
    repeat first | apply W.seq | apply W.region
    refine W.block ?_
    repeat first | apply W.seq | apply W.region
    refine W.drawsH hs9 [(0, true), (1, true), (2, true), (3, true), (4, false), (5, false), (6, false), (7, false), (8, false), (9, false)] mixed (by kernel_rfl) (by kernel_rfl) ?_
    have hs10 := hs9.drew
    refine TW.p rfl rfl rfl rfl (PV_move rfl rfl) hs10 ?_
    refine TW.p rfl rfl rfl rfl (PV_move rfl rfl) hs10 ?_
    refine TW.p rfl rfl rfl rfl (PV_indexArr1 x rfl Tryz.underlying154 sz153 rfl rfl rfl (by omega)) hs10 ?_
    refine TW.s rfl rfl rfl rfl (PV_loadM1 rfl ag153 rfl (by first | exact m0 | exact m1 | exact m2 | exact m3 | exact m4 | exact m5 | exact mapp m0 | exact mapp m1 | exact mapp m2 | exact mapp m3) (by first | exact w32_get (by omega) | exact wcells_get (by omega) | exact bc_get (by omega) | exact tc_34 | exact tc_35 | exact tc_36 | exact tc_0 | exact tc_1 | rfl)) hs10 ?_
    refine TW.q rfl rfl rfl rfl (T := fun _ => True) (PV_move rfl rfl) trivial (fun _ => hs10) ?_
    refine TW.q rfl rfl rfl rfl (T := fun _ => True) (PV_indexArr1 x rfl Tryz.underlying154 sz153 rfl rfl rfl (by omega)) trivial (fun _ => hs10) ?_
    refine TW.q rfl rfl rfl rfl (PV_loadM1 rfl ag153 rfl (by first | exact m0 | exact m1 | exact m2 | exact m3 | exact m4 | exact m5 | exact mapp m0 | exact mapp m1 | exact mapp m2 | exact mapp m3) (by first | exact w32_get (by omega) | exact wcells_get (by omega) | exact bc_get (by omega) | exact tc_34 | exact tc_35 | exact tc_36 | exact tc_0 | exact tc_1 | rfl)) hs10 (fun _ => hs10) ?_
    refine TW.q rfl rfl rfl rfl (T := fun _ => True) (PV_u32_add rfl rfl rfl) trivial (fun _ => hs10) ?_
    refine TW.qn rfl rfl rfl rfl (T := fun _ => True) (PV_indexArr1 x rfl Tryz.underlying154 sz153 rfl rfl rfl (by omega)) trivial (by kernel_rfl) ?_
    refine TW.en0 rfl rfl rfl (by kernel_rfl) (EF_storeC (cs := w32 (addW s (rnds l s 64) x)) rfl rfl rfl sz153 rfl (by rw [length_w32, ha]; omega) (show _ = w32 (addW s (rnds l s 64) (x + 1)) by rw [w32_set, gw_addW h8 hx1, addW_succ]) hs10 (by first | exact u0 | exact u1 | exact u2 | exact u3 | exact u4 | exact u5 | exact u0.app | exact u1.app | exact u2.app | exact u3.app)) ?_
    rintro r11 w11 hs11
    refine TW.done (nxt ?_)
    repeat first | apply W.seq | apply W.region
    refine RL.p rfl rfl rfl (PV_move rfl rfl) ?_
    refine RL.p rfl rfl rfl (PV_add rfl rfl rfl (by omega)) ?_
    refine RL.p rfl rfl rfl (PV_assign rfl rfl) ?_
    refine RL.done (round_end (x + 1) ?_ ?_ ?_)
    · repeat first | exact Sub.nil | refine Sub.cons rfl ?_
    · exact ⟨by omega, hs11⟩
    · first | omega | (dsimp only; omega)
  repeat first | apply W.seq | apply W.region
  refine  W.exit (nxt ?_)
  obtain rfl : x = 8 := by have := of_decide_eq_false h4; omega
  have hbl : (addW s (rnds l s 64) 8).length = 8 := by rw [length_addW, h8]
  repeat first | apply W.seq | apply W.region
  refine RL.s rfl rfl rfl (PV_loadMA rfl ag154 sz154 rfl m3 (by rw [length_w32, hbl]; decide) (part_whole (by rw [length_w32, hbl]))) hs9 ?_
  refine RL.e0 rfl rfl (EF_storeA (cs := zl154) rfl rfl rfl sz154 (by rw [length_w32, hbl]; rfl) (one1_w32 _) hs9 (by first | exact u0 | exact u1 | exact u2 | exact u3 | exact u4 | exact u5 | exact u0.app | exact u1.app | exact u2.app | exact u3.app)) ?_
  rintro r10 w10 hs10
  refine RL.done (nxt ?_)
  repeat first | apply W.seq | apply W.region
  exact W.ret (ret_cell rfl rfl (ldA ag154 sz154 hs10 (by first | exact m0 | exact m1 | exact m2 | exact m3 | exact m4 | exact m5 | exact mapp m0 | exact mapp m1 | exact hm) (by rw [length_w32, hbl])) ⟨_, rfl, by rw [blk_def], hs10.tail.tail.tail.tail⟩)

end Go.Proofs.YtecbpmgfikgoaaaGreatDoor
