/- Walks of functions 140 112 113 114 115 116 117: what each call gives back, and that it writes nothing of anybody else's. Conditions: as each theorem says. Walks of functions 77: what each call gives back, and that it writes nothing of anybody else's. Conditions: as each theorem says. Plain laws of the digest: a block looks at 64 bytes; what stands in the last blocks; the bytes that come out. Conditions: none beyond those typed. Walks of functions 76 40: what each call gives back, and that it writes nothing of anybody else's. Conditions: as each theorem says. Slices in memory that the call owns or that nobody writes; what a Writer is; bytes of a text; slices beside nil. Conditions: none. Operations that are carried out only where another one has yielded true, or false. Conditions: none. Walks of functions 56 96 97 88 94 111 110 64 75: what each call gives back, and that it writes nothing of anybody else's. Conditions: as each theorem says. Strings: an index, a part; a set of ASCII bytes; the trimming of such bytes. Conditions: none. Walks of functions 176 162 163 164 138 104: what each call gives back, and that it writes nothing of anybody else's. Conditions: as each theorem says. Targets as cells. Conditions: none. -/
import Derived.Test.YtecbpmgfikgoaaaGreatDoorK1
import Derived.Lib.ConvBytes
import Derived.Laws.Strings
section
set_option linter.unusedVariables false
set_option linter.unusedSimpArgs false
set_option maxRecDepth 8000
namespace Go.Proofs.YtecbpmgfikgoaaaGreatDoor
open Go Go.RowKit
variable {G w : World} {M : List Chunk} {I : Imm}

theorem C140 {x : UInt32} {q : Int} {m : Nat} (hq : q = (m : Int)) (h0 : 0 < m) (h1 : m < 32) (hs : Sat G M I w) : Calls Tryz.prog 140 #[u32v x, .int .u64 q] w (Ret fun r w' => r = u32v (rotr x m) ∧ Sat G M I w') := by
  refine enter2 Tryz.func140 rfl Tryz.ntmps140 rfl ?_
  repeat (first | refine W.seq ?_ | refine W.region ?_)
  refine RL.p rfl rfl rfl (PV_assign rfl rfl) ?_
  refine RL.done (nxt ?_)
  repeat (first | refine W.seq ?_ | refine W.region ?_)
  refine RL.p rfl rfl rfl (PV_move rfl rfl) ?_
  refine RL.p rfl rfl rfl (PV_move rfl rfl) ?_
  refine RL.p rfl rfl rfl (PV_u32_shr rfl rfl rfl hq h1) ?_
  refine RL.p rfl rfl rfl (PV_move rfl rfl) ?_
  refine RL.p rfl rfl rfl (PV_move rfl rfl) ?_
  refine RL.p rfl rfl rfl (PV_u64_sub (a := 32) rfl rfl rfl rfl hq (by omega) (by decide)) ?_
  refine RL.p rfl rfl rfl (PV_u32_shl rfl rfl rfl rfl (by omega)) ?_
  refine RL.p rfl rfl rfl (PV_u32_or rfl rfl rfl) ?_
  refine RL.p rfl rfl rfl (PV_assign rfl rfl) ?_
  refine RL.done (nxt ?_)
  repeat (first | refine W.seq ?_ | refine W.region ?_)
  exact W.ret (ret_tmp rfl rfl ⟨_, rfl, rfl, hs⟩)

theorem C112 {x : UInt32} (hs : Sat G M I w) : Calls Tryz.prog 112 #[u32v x] w (Ret fun r w' => r = u32v (sg0 x) ∧ Sat G M I w') := by
  refine enter1 Tryz.func112 rfl Tryz.ntmps112 rfl ?_
  repeat (first | refine W.seq ?_ | refine W.region ?_)
  refine RL.p rfl rfl rfl (PV_assign rfl rfl) ?_
  refine RL.done (nxt ?_)
  repeat (first | refine W.seq ?_ | refine W.region ?_)
  refine RL.p rfl rfl rfl (PV_move rfl rfl) ?_
  refine RL.e rfl rfl rfl (K2 rfl fn140 rfl rfl (C140 rfl (by decide) (by decide) hs)) ?_
  rintro _ w1 ⟨rfl, hs1⟩
  refine RL.p rfl rfl rfl (PV_move rfl rfl) ?_
  refine RL.e rfl rfl rfl (K2 rfl fn140 rfl rfl (C140 rfl (by decide) (by decide) hs1)) ?_
  rintro _ w2 ⟨rfl, hs2⟩
  refine RL.p rfl rfl rfl (PV_u32_xor rfl rfl rfl) ?_
  refine RL.p rfl rfl rfl (PV_move rfl rfl) ?_
  refine RL.p rfl rfl rfl (PV_u32_shr rfl rfl rfl rfl (by decide)) ?_
  refine RL.p rfl rfl rfl (PV_u32_xor rfl rfl rfl) ?_
  refine RL.p rfl rfl rfl (PV_assign rfl rfl) ?_
  refine RL.done (nxt ?_)
  repeat (first | refine W.seq ?_ | refine W.region ?_)
  exact W.ret (ret_tmp rfl rfl ⟨_, rfl, rfl, hs2⟩)

theorem C113 {x : UInt32} (hs : Sat G M I w) : Calls Tryz.prog 113 #[u32v x] w (Ret fun r w' => r = u32v (sg1 x) ∧ Sat G M I w') := by
  refine enter1 Tryz.func113 rfl Tryz.ntmps113 rfl ?_
  repeat (first | refine W.seq ?_ | refine W.region ?_)
  refine RL.p rfl rfl rfl (PV_assign rfl rfl) ?_
  refine RL.done (nxt ?_)
  repeat (first | refine W.seq ?_ | refine W.region ?_)
  refine RL.p rfl rfl rfl (PV_move rfl rfl) ?_
  refine RL.e rfl rfl rfl (K2 rfl fn140 rfl rfl (C140 rfl (by decide) (by decide) hs)) ?_
  rintro _ w1 ⟨rfl, hs1⟩
  refine RL.p rfl rfl rfl (PV_move rfl rfl) ?_
  refine RL.e rfl rfl rfl (K2 rfl fn140 rfl rfl (C140 rfl (by decide) (by decide) hs1)) ?_
  rintro _ w2 ⟨rfl, hs2⟩
  refine RL.p rfl rfl rfl (PV_u32_xor rfl rfl rfl) ?_
  refine RL.p rfl rfl rfl (PV_move rfl rfl) ?_
  refine RL.p rfl rfl rfl (PV_u32_shr rfl rfl rfl rfl (by decide)) ?_
  refine RL.p rfl rfl rfl (PV_u32_xor rfl rfl rfl) ?_
  refine RL.p rfl rfl rfl (PV_assign rfl rfl) ?_
  refine RL.done (nxt ?_)
  repeat (first | refine W.seq ?_ | refine W.region ?_)
  exact W.ret (ret_tmp rfl rfl ⟨_, rfl, rfl, hs2⟩)

theorem C114 {x : UInt32} (hs : Sat G M I w) : Calls Tryz.prog 114 #[u32v x] w (Ret fun r w' => r = u32v (bg1 x) ∧ Sat G M I w') := by
  refine enter1 Tryz.func114 rfl Tryz.ntmps114 rfl ?_
  repeat (first | refine W.seq ?_ | refine W.region ?_)
  refine RL.p rfl rfl rfl (PV_assign rfl rfl) ?_
  refine RL.done (nxt ?_)
  repeat (first | refine W.seq ?_ | refine W.region ?_)
  refine RL.p rfl rfl rfl (PV_move rfl rfl) ?_
  refine RL.e rfl rfl rfl (K2 rfl fn140 rfl rfl (C140 rfl (by decide) (by decide) hs)) ?_
  rintro _ w1 ⟨rfl, hs1⟩
  refine RL.p rfl rfl rfl (PV_move rfl rfl) ?_
  refine RL.e rfl rfl rfl (K2 rfl fn140 rfl rfl (C140 rfl (by decide) (by decide) hs1)) ?_
  rintro _ w2 ⟨rfl, hs2⟩
  refine RL.p rfl rfl rfl (PV_u32_xor rfl rfl rfl) ?_
  refine RL.p rfl rfl rfl (PV_move rfl rfl) ?_
  refine RL.e rfl rfl rfl (K2 rfl fn140 rfl rfl (C140 rfl (by decide) (by decide) hs2)) ?_
  rintro _ w3 ⟨rfl, hs3⟩
  refine RL.p rfl rfl rfl (PV_u32_xor rfl rfl rfl) ?_
  refine RL.p rfl rfl rfl (PV_assign rfl rfl) ?_
  refine RL.done (nxt ?_)
  repeat (first | refine W.seq ?_ | refine W.region ?_)
  exact W.ret (ret_tmp rfl rfl ⟨_, rfl, rfl, hs3⟩)

theorem C115 {x y z : UInt32} (hs : Sat G M I w) : Calls Tryz.prog 115 #[u32v x, u32v y, u32v z] w (Ret fun r w' => r = u32v (chs x y z) ∧ Sat G M I w') := by
  refine enter3 Tryz.func115 rfl Tryz.ntmps115 rfl ?_
  repeat (first | refine W.seq ?_ | refine W.region ?_)
  refine RL.p rfl rfl rfl (PV_assign rfl rfl) ?_
  refine RL.done (nxt ?_)
  repeat (first | refine W.seq ?_ | refine W.region ?_)
  refine RL.p rfl rfl rfl (PV_move rfl rfl) ?_
  refine RL.p rfl rfl rfl (PV_move rfl rfl) ?_
  refine RL.p rfl rfl rfl (PV_u32_and rfl rfl rfl) ?_
  refine RL.p rfl rfl rfl (PV_move rfl rfl) ?_
  refine RL.p rfl rfl rfl (PV_u32_not rfl rfl) ?_
  refine RL.p rfl rfl rfl (PV_move rfl rfl) ?_
  refine RL.p rfl rfl rfl (PV_u32_and rfl rfl rfl) ?_
  refine RL.p rfl rfl rfl (PV_u32_xor rfl rfl rfl) ?_
  refine RL.p rfl rfl rfl (PV_assign rfl rfl) ?_
  refine RL.done (nxt ?_)
  repeat (first | refine W.seq ?_ | refine W.region ?_)
  exact W.ret (ret_tmp rfl rfl ⟨_, rfl, rfl, hs⟩)

theorem C116 {x : UInt32} (hs : Sat G M I w) : Calls Tryz.prog 116 #[u32v x] w (Ret fun r w' => r = u32v (bg0 x) ∧ Sat G M I w') := by
  refine enter1 Tryz.func116 rfl Tryz.ntmps116 rfl ?_
  repeat (first | refine W.seq ?_ | refine W.region ?_)
  refine RL.p rfl rfl rfl (PV_assign rfl rfl) ?_
  refine RL.done (nxt ?_)
  repeat (first | refine W.seq ?_ | refine W.region ?_)
  refine RL.p rfl rfl rfl (PV_move rfl rfl) ?_
  refine RL.e rfl rfl rfl (K2 rfl fn140 rfl rfl (C140 rfl (by decide) (by decide) hs)) ?_
  rintro _ w1 ⟨rfl, hs1⟩
  refine RL.p rfl rfl rfl (PV_move rfl rfl) ?_
  refine RL.e rfl rfl rfl (K2 rfl fn140 rfl rfl (C140 rfl (by decide) (by decide) hs1)) ?_
  rintro _ w2 ⟨rfl, hs2⟩
  refine RL.p rfl rfl rfl (PV_u32_xor rfl rfl rfl) ?_
  refine RL.p rfl rfl rfl (PV_move rfl rfl) ?_
  refine RL.e rfl rfl rfl (K2 rfl fn140 rfl rfl (C140 rfl (by decide) (by decide) hs2)) ?_
  rintro _ w3 ⟨rfl, hs3⟩
  refine RL.p rfl rfl rfl (PV_u32_xor rfl rfl rfl) ?_
  refine RL.p rfl rfl rfl (PV_assign rfl rfl) ?_
  refine RL.done (nxt ?_)
  repeat (first | refine W.seq ?_ | refine W.region ?_)
  exact W.ret (ret_tmp rfl rfl ⟨_, rfl, rfl, hs3⟩)

theorem C117 {x y z : UInt32} (hs : Sat G M I w) : Calls Tryz.prog 117 #[u32v x, u32v y, u32v z] w (Ret fun r w' => r = u32v (mst x y z) ∧ Sat G M I w') := by
  refine enter3 Tryz.func117 rfl Tryz.ntmps117 rfl ?_
  repeat (first | refine W.seq ?_ | refine W.region ?_)
  refine RL.p rfl rfl rfl (PV_assign rfl rfl) ?_
  refine RL.done (nxt ?_)
  repeat (first | refine W.seq ?_ | refine W.region ?_)
  refine RL.p rfl rfl rfl (PV_move rfl rfl) ?_
  refine RL.p rfl rfl rfl (PV_move rfl rfl) ?_
  refine RL.p rfl rfl rfl (PV_u32_and rfl rfl rfl) ?_
  refine RL.p rfl rfl rfl (PV_move rfl rfl) ?_
  refine RL.p rfl rfl rfl (PV_move rfl rfl) ?_
  refine RL.p rfl rfl rfl (PV_u32_and rfl rfl rfl) ?_
  refine RL.p rfl rfl rfl (PV_u32_xor rfl rfl rfl) ?_
  refine RL.p rfl rfl rfl (PV_move rfl rfl) ?_
  refine RL.p rfl rfl rfl (PV_move rfl rfl) ?_
  refine RL.p rfl rfl rfl (PV_u32_and rfl rfl rfl) ?_
  refine RL.p rfl rfl rfl (PV_u32_xor rfl rfl rfl) ?_
  refine RL.p rfl rfl rfl (PV_assign rfl rfl) ?_
  refine RL.done (nxt ?_)
  repeat (first | refine W.seq ?_ | refine W.region ?_)
  exact W.ret (ret_tmp rfl rfl ⟨_, rfl, rfl, hs⟩)

end Go.Proofs.YtecbpmgfikgoaaaGreatDoor
end
section
set_option linter.unusedVariables false
set_option linter.unusedSimpArgs false
set_option maxRecDepth 8000
set_option maxHeartbeats 4000000
namespace Go.Proofs.YtecbpmgfikgoaaaGreatDoor
open Go Go.RowKit
variable {G w : World} {M : List Chunk} {I : Imm}

def w32 (l : List UInt32) : List Value := l.map u32v
theorem length_w32 (l : List UInt32) : (w32 l).length = l.length := by simp [w32]
theorem one1_w32 (l : List UInt32) : one1 (w32 l) = true := by simp [one1, w32, u32v, Value.oneCell']
theorem w32_get {l : List UInt32} {j : Nat} (h : j < l.length) : (w32 l)[j]? = some (u32v (gw l j)) := by
  simp [w32, gw, List.getElem?_eq_getElem h]
theorem w32_set (l : List UInt32) (j : Nat) (x : UInt32) : (w32 l).set j (u32v x) = w32 (l.set j x) := by simp [w32, List.map_set]
theorem bc_get {l : List UInt8} {j : Nat} (h : j < l.length) : (bcells l)[j]? = some (u8v (gb l j)) := by
  simp [bcells, gb, List.getElem?_eq_getElem h]
def wcells (b : List UInt8) (i : Nat) : List Value := w32 (ws b i) ++ List.replicate (64 - i) (.int .u32 0)
theorem length_wcells {b : List UInt8} {i : Nat} (h : i ≤ 64) : (wcells b i).length = 64 := by simp [wcells, length_w32, length_ws]; omega
theorem wcells_get {b : List UInt8} {i j : Nat} (h : j < i) : (wcells b i)[j]? = some (u32v (gw (ws b i) j)) := by
  rw [wcells, List.getElem?_append_left (by rw [length_w32, length_ws]; exact h)]
  exact w32_get (by rw [length_ws]; exact h)
theorem wcells_set {b : List UInt8} {i : Nat} {q : UInt32} (h : i < 64) (hq : q = nextW b (ws b i) i) : (wcells b i).set i (u32v q) = wcells b (i + 1) := by
  subst hq
  have hl : (w32 (ws b i)).length = i := by rw [length_w32, length_ws]
  have hr : 64 - i = (64 - (i + 1)) + 1 := by omega
  rw [wcells, List.set_append_right _ _ (by omega), hl, Nat.sub_self, hr, List.replicate_succ, List.set_cons_zero, wcells, ws_succ]
  simp [w32]
theorem wcells_zero (b : List UInt8) : wcells b 0 = zl156 := by rw [wcells, ws_zero]; rfl
attribute [irreducible] wcells
theorem gw_addW {s v : List UInt32} (h : s.length = 8) {x : Nat} (hx : x < 8) : gw (addW s v x) x = gw s x := by
  have key : ∀ i, i ≤ x → gw (addW s v i) x = gw s x := by
    intro i
    induction i with
    | zero => intro _; rw [addW_zero]
    | succ i ih =>
      intro hi
      have := ih (by omega)
      simp only [gw, addW_succ, List.getD_eq_getElem?_getD] at this ⊢
      rw [List.getElem?_set_ne (by omega)]
      exact this
  exact key x (Nat.le_refl _)
def evAll (E : List (Nat × Value)) : List Operand → Option (List Value)
  | [] => some []
  | x :: r => match ev E x, evAll E r with
    | some v, some vs => some (v :: vs)
    | _, _ => none
theorem evAll_eval {n : Nat} {E : List (Nat × Value)} {a : Act} (ha : Env n a E) : ∀ (ops : List Operand) (vs : List Value), evAll E ops = some vs → ops.map a.eval = vs
  | [], vs, h => by simp only [evAll, Option.some.injEq] at h; subst h; rfl
  | x :: r, vs, h => by
    simp only [evAll] at h
    cases hx : ev E x with
    | none => simp [hx] at h
    | some v =>
      cases hr : evAll E r with
      | none => simp [hx, hr] at h
      | some us =>
        simp only [hx, hr, Option.some.injEq] at h
        subst h
        simp [ha.ev hx, evAll_eval ha r us hr]
theorem PV_arr {P : Program} {n : Nat} {E : List (Nat × Value)} {S : World → Prop} {o : Oper} {T e : TypeId} {parts : Array (Nat × Operand)} {ops : List Operand} {vs : List Value} {z : List Value} {m : Nat} (ho : o.op = .build T parts) (hps : parts.toList = (ops.zipIdx 0).map fun x => (x.2, x.1)) (ht : P.underlying T = some (.array m e)) (hs : (P.info? e).map (·.size) = some 1)
    (hz : (P.info? T).map (fun i => (i.zero, i.size)) = some (some (aggL z), m)) (hv : evAll E ops = some vs) (hzl : z.length = vs.length) (h1 : one1 vs = true) : PV P n o E S (aggL vs) :=
  PV_buildArr ho ht hs hz hzl (fun a ha => by
    have h := evAll_eval ha ops vs hv
    subst h
    rw [Array.toList_map, hps, List.zipIdx_map, List.map_map, List.map_map]
    rfl) h1

theorem C77 {bs bk bb off m c : Nat} {s : List UInt32} {l : List UInt8} (h8 : s.length = 8) (hk : (bk, w32 k256, 156) ∈ M) (hb : Mem G M I bb off (bcells l)) (hl : 64 ≤ l.length) (hm : m = l.length) (hs : Sat G ((bs, w32 s, 155) :: M) I w) :
    Calls Tryz.prog 77 #[ptr bs 0, .slice (some ⟨bb, off, none⟩) m c, ptr bk 0] w (Ret fun r w' => r = .tuple #[] ∧ Sat G ((bs, w32 (blk s l), 155) :: M) I w') := by
  refine enter3 Tryz.func77 rfl Tryz.ntmps77 rfl ?_
  repeat (first | refine W.seq ?_ | refine W.region ?_)
  refine RL.e rfl rfl rfl (EF_allocA rfl zr156 hs) ?_
  rintro _ w1 ⟨b6, rfl, hs1⟩
  refine RL.done (nxt ?_)
  repeat (first | refine W.seq ?_ | refine W.region ?_)
  refine RL.p rfl rfl rfl (PV_move rfl rfl) ?_
  refine RL.done (nxt ?_)
  repeat (first | refine W.seq ?_ | refine W.region ?_)
  refine W.block ?_
  repeat (first | refine W.seq ?_ | refine W.region ?_)
  refine W.loop (F := fun x : Nat => [(14, .int .i64 (x : Int)), (6, ptr b6 0), (0, ptr bs 0), (1, .slice (some ⟨bb, off, none⟩) m c), (2, ptr bk 0)]) (J := fun x w => x ≤ 16 ∧ Sat G ((b6, wcells l x, 156) :: (bs, w32 s, 155) :: M) I w) (m := fun x => 16 - x) 0 (by repeat first | exact Sub.nil | refine Sub.cons rfl ?_) ⟨by omega, by rw [wcells_zero]; exact hs1⟩ ?_
  rintro x w2 ⟨hx, hs2⟩
  repeat (first | refine W.seq ?_ | refine W.region ?_)
  refine RL.p rfl rfl rfl (PV_lss rfl rfl rfl) ?_
  refine RL.done (nxt ?_)
  repeat (first | refine W.seq ?_ | refine W.region ?_)
  refine W.cond rfl (fun h1 => ?_) (fun h1 => ?_)
  ·
    refine W.skip (nxt ?_)
    have hx1 : x < 16 := by have := of_decide_eq_true h1; omega
    repeat (first | refine W.seq ?_ | refine W.region ?_)
    refine W.block ?_
    repeat (first | refine W.seq ?_ | refine W.region ?_)
    refine RL.p rfl rfl rfl (PV_move rfl rfl) ?_
    refine RL.p rfl rfl rfl (PV_assign rfl rfl) ?_
    refine RL.done (nxt ?_)
    repeat (first | refine W.seq ?_ | refine W.region ?_)
    refine W.drawsH hs2 [(0, true), (1, true), (2, true), (3, true), (4, true), (5, true), (6, true), (7, true), (8, true), (9, true), (10, true), (11, true), (12, true), (13, true), (14, true), (15, true), (16, true), (17, true), (18, true), (19, true), (20, true), (21, true), (22, true), (23, true), (24, true), (25, true), (26, true), (27, false), (28, false), (29, false), (30, false), (31, false), (32, false), (33, false), (34, false), (35, false)] mixed (by kernel_rfl) (by kernel_rfl) ?_
    have hs3 := hs2.drew
    refine TW.p rfl rfl rfl rfl (PV_move rfl rfl) hs3 ?_
    refine TW.p rfl rfl rfl rfl (PV_move rfl rfl) hs3 ?_
    refine TW.p rfl rfl rfl rfl (PV_move rfl rfl) hs3 ?_
    refine TW.p rfl rfl rfl rfl (PV_mul rfl rfl rfl (by omega)) hs3 ?_
    refine TW.p rfl rfl rfl rfl (PV_indexAddr1 (4 * x) rfl Tryz.underlying60 sz5 rfl rfl rfl (by omega)) hs3 ?_
    refine TW.s rfl rfl rfl rfl (PV_loadMem1 rfl ag5 rfl (fun _ h => h.tail.tail) hb (bc_get (by omega))) hs3 ?_
    refine TW.p rfl rfl rfl rfl (PV_conv_u8_u32 rfl Tryz.underlying5 Tryz.underlying153 rfl) hs3 ?_
    refine TW.p rfl rfl rfl rfl (PV_u32_shl rfl rfl rfl rfl (by decide)) hs3 ?_
    refine TW.p rfl rfl rfl rfl (PV_move rfl rfl) hs3 ?_
    refine TW.p rfl rfl rfl rfl (PV_move rfl rfl) hs3 ?_
    refine TW.p rfl rfl rfl rfl (PV_mul rfl rfl rfl (by omega)) hs3 ?_
    refine TW.p rfl rfl rfl rfl (PV_add rfl rfl rfl (by omega)) hs3 ?_
    refine TW.p rfl rfl rfl rfl (PV_indexAddr1 (4 * x + 1) rfl Tryz.underlying60 sz5 rfl rfl rfl (by omega)) hs3 ?_
    refine TW.s rfl rfl rfl rfl (PV_loadMem1 rfl ag5 rfl (fun _ h => h.tail.tail) hb (bc_get (by omega))) hs3 ?_
    refine TW.p rfl rfl rfl rfl (PV_conv_u8_u32 rfl Tryz.underlying5 Tryz.underlying153 rfl) hs3 ?_
    refine TW.p rfl rfl rfl rfl (PV_u32_shl rfl rfl rfl rfl (by decide)) hs3 ?_
    refine TW.p rfl rfl rfl rfl (PV_u32_or rfl rfl rfl) hs3 ?_
    refine TW.p rfl rfl rfl rfl (PV_move rfl rfl) hs3 ?_
    refine TW.p rfl rfl rfl rfl (PV_move rfl rfl) hs3 ?_
    refine TW.p rfl rfl rfl rfl (PV_mul rfl rfl rfl (by omega)) hs3 ?_
    refine TW.p rfl rfl rfl rfl (PV_add rfl rfl rfl (by omega)) hs3 ?_
    refine TW.p rfl rfl rfl rfl (PV_indexAddr1 (4 * x + 2) rfl Tryz.underlying60 sz5 rfl rfl rfl (by omega)) hs3 ?_
    refine TW.s rfl rfl rfl rfl (PV_loadMem1 rfl ag5 rfl (fun _ h => h.tail.tail) hb (bc_get (by omega))) hs3 ?_
    refine TW.p rfl rfl rfl rfl (PV_conv_u8_u32 rfl Tryz.underlying5 Tryz.underlying153 rfl) hs3 ?_
    refine TW.p rfl rfl rfl rfl (PV_u32_shl rfl rfl rfl rfl (by decide)) hs3 ?_
    refine TW.p rfl rfl rfl rfl (PV_u32_or rfl rfl rfl) hs3 ?_
    refine TW.p rfl rfl rfl rfl (PV_move rfl rfl) hs3 ?_
    refine TW.q rfl rfl rfl rfl (T := fun _ => True) (PV_move rfl rfl) trivial (fun _ => hs3) ?_
    refine TW.q rfl rfl rfl rfl (T := fun _ => True) (PV_mul rfl rfl rfl (by omega)) trivial (fun _ => hs3) ?_
    refine TW.q rfl rfl rfl rfl (T := fun _ => True) (PV_add rfl rfl rfl (by omega)) trivial (fun _ => hs3) ?_
    refine TW.q rfl rfl rfl rfl (T := fun _ => True) (PV_indexAddr1 (4 * x + 3) rfl Tryz.underlying60 sz5 rfl rfl rfl (by omega)) trivial (fun _ => hs3) ?_
    refine TW.q rfl rfl rfl rfl (PV_loadMem1 rfl ag5 rfl (fun _ h => h.tail.tail) hb (bc_get (by omega))) hs3 (fun _ => hs3) ?_
    refine TW.q rfl rfl rfl rfl (T := fun _ => True) (PV_conv_u8_u32 rfl Tryz.underlying5 Tryz.underlying153 rfl) trivial (fun _ => hs3) ?_
    refine TW.q rfl rfl rfl rfl (T := fun _ => True) (PV_u32_or rfl rfl rfl) trivial (fun _ => hs3) ?_
    refine TW.qn rfl rfl rfl rfl (T := fun _ => True) (PV_indexArr1 x rfl Tryz.underlying156 sz153 rfl rfl rfl (by omega)) trivial (by kernel_rfl) ?_
    refine TW.en0 rfl rfl rfl (by kernel_rfl) (EF_storeC (cs := wcells l x) rfl rfl rfl sz153 rfl (by rw [length_wcells (by omega)]; omega) (wcells_set (by omega) (by simp [nextW, be, hx1])) hs3 (by first | exact u0 | exact u1 | exact u2 | exact u3 | exact u4 | exact u5)) ?_
    rintro _ w4 hs4
    refine TW.done (nxt ?_)
    repeat (first | refine W.seq ?_ | refine W.region ?_)
    refine RL.p rfl rfl rfl (PV_add rfl rfl rfl (by omega)) ?_
    refine RL.p rfl rfl rfl (PV_move rfl rfl) ?_
    refine RL.done (round_end (x + 1) ?_ ?_ ?_)
    · repeat first | exact Sub.nil | refine Sub.cons rfl ?_
    · exact ⟨by omega, hs4⟩
    · first | omega | (dsimp only; omega)
  repeat (first | refine W.seq ?_ | refine W.region ?_)
  refine  W.exit (nxt ?_)
  obtain rfl : x = 16 := by have := of_decide_eq_false h1; omega
  repeat (first | refine W.seq ?_ | refine W.region ?_)
  refine RL.p rfl rfl rfl (PV_assign rfl rfl) ?_
  refine RL.done (nxt ?_)
  repeat (first | refine W.seq ?_ | refine W.region ?_)
  refine W.block ?_
  repeat (first | refine W.seq ?_ | refine W.region ?_)
  refine W.loop (F := fun x : Nat => [(8, .int .i64 (x : Int)), (6, ptr b6 0), (0, ptr bs 0), (2, ptr bk 0)]) (J := fun x w => 16 ≤ x ∧ x ≤ 64 ∧ Sat G ((b6, wcells l x, 156) :: (bs, w32 s, 155) :: M) I w) (m := fun x => 64 - x) 16 (by repeat first | exact Sub.nil | refine Sub.cons rfl ?_) ⟨by omega, by omega, hs2⟩ ?_
  rintro x w3 ⟨hx0, hx, hs3⟩
  repeat (first | refine W.seq ?_ | refine W.region ?_)
  refine RL.p rfl rfl rfl (PV_move rfl rfl) ?_
  refine RL.p rfl rfl rfl (PV_lss rfl rfl rfl) ?_
  refine RL.done (nxt ?_)
  repeat (first | refine W.seq ?_ | refine W.region ?_)
  refine W.cond rfl (fun h2 => ?_) (fun h2 => ?_)
  ·
    have hx1 : x < 64 := by have := of_decide_eq_true h2; omega
    refine W.skip (nxt ?_)
    repeat (first | refine W.seq ?_ | refine W.region ?_)
    refine W.block ?_
    repeat (first | refine W.seq ?_ | refine W.region ?_)
    refine W.drawsH hs3 [(0, true), (1, true), (2, true), (3, true), (4, true), (5, true), (6, true), (7, true), (8, true), (11, true), (12, true), (13, true), (14, true), (16, true), (17, true), (18, true), (19, true), (9, false), (10, true), (15, true), (20, false), (21, false), (22, false), (23, false)] mixed (by kernel_rfl) (by kernel_rfl) ?_
    have hs4 := hs3.drew
    refine TW.p rfl rfl rfl rfl (PV_move rfl rfl) hs4 ?_
    refine TW.p rfl rfl rfl rfl (PV_move rfl rfl) hs4 ?_
    refine TW.p rfl rfl rfl rfl (PV_sub rfl rfl rfl (by omega)) hs4 ?_
    refine TW.p rfl rfl rfl rfl (PV_indexArr1 (x - 16) rfl Tryz.underlying156 sz153 rfl rfl (by omega) (by omega)) hs4 ?_
    refine TW.s rfl rfl rfl rfl (PV_loadM1 rfl ag153 rfl (by first | exact m0 | exact m1 | exact m2 | exact m3 | exact m4 | exact m5) (by first | exact w32_get (by omega) | exact wcells_get (by omega) | exact bc_get (by omega) | rfl)) hs4 ?_
    refine TW.p rfl rfl rfl rfl (PV_move rfl rfl) hs4 ?_
    refine TW.p rfl rfl rfl rfl (PV_sub rfl rfl rfl (by omega)) hs4 ?_
    refine TW.p rfl rfl rfl rfl (PV_indexArr1 (x - 15) rfl Tryz.underlying156 sz153 rfl rfl (by omega) (by omega)) hs4 ?_
    refine TW.s rfl rfl rfl rfl (PV_loadM1 rfl ag153 rfl (by first | exact m0 | exact m1 | exact m2 | exact m3 | exact m4 | exact m5) (by first | exact w32_get (by omega) | exact wcells_get (by omega) | exact bc_get (by omega) | rfl)) hs4 ?_
    refine TW.p rfl rfl rfl rfl (PV_move rfl rfl) hs4 ?_
    refine TW.p rfl rfl rfl rfl (PV_sub rfl rfl rfl (by omega)) hs4 ?_
    refine TW.p rfl rfl rfl rfl (PV_indexArr1 (x - 7) rfl Tryz.underlying156 sz153 rfl rfl (by omega) (by omega)) hs4 ?_
    refine TW.s rfl rfl rfl rfl (PV_loadM1 rfl ag153 rfl (by first | exact m0 | exact m1 | exact m2 | exact m3 | exact m4 | exact m5) (by first | exact w32_get (by omega) | exact wcells_get (by omega) | exact bc_get (by omega) | rfl)) hs4 ?_
    refine TW.p rfl rfl rfl rfl (PV_move rfl rfl) hs4 ?_
    refine TW.p rfl rfl rfl rfl (PV_sub rfl rfl rfl (by omega)) hs4 ?_
    refine TW.p rfl rfl rfl rfl (PV_indexArr1 (x - 2) rfl Tryz.underlying156 sz153 rfl rfl (by omega) (by omega)) hs4 ?_
    refine TW.s rfl rfl rfl rfl (PV_loadM1 rfl ag153 rfl (by first | exact m0 | exact m1 | exact m2 | exact m3 | exact m4 | exact m5) (by first | exact w32_get (by omega) | exact wcells_get (by omega) | exact bc_get (by omega) | rfl)) hs4 ?_
    refine TW.e rfl rfl rfl rfl (K1 rfl fn112 rfl (C112 hs4)) ?_
    rintro _ w5 ⟨rfl, hs5⟩
    refine ⟨hs5, ?_⟩
    refine TW.p rfl rfl rfl rfl (PV_u32_add rfl rfl rfl) hs5 ?_
    refine TW.p rfl rfl rfl rfl (PV_u32_add rfl rfl rfl) hs5 ?_
    refine TW.e rfl rfl rfl rfl (K1 rfl fn113 rfl (C113 hs5)) ?_
    rintro _ w6 ⟨rfl, hs6⟩
    refine ⟨hs6, ?_⟩
    refine TW.q rfl rfl rfl rfl (T := fun _ => True) (PV_u32_add rfl rfl rfl) trivial (fun _ => hs6) ?_
    refine TW.qn rfl rfl rfl rfl (T := fun _ => True) (PV_indexArr1 (x) rfl Tryz.underlying156 sz153 rfl rfl (by omega) (by omega)) trivial (by kernel_rfl) ?_
    refine TW.en0 rfl rfl rfl (by kernel_rfl) (EF_storeC (cs := wcells l x) rfl rfl rfl sz153 rfl (by rw [length_wcells (by omega)]; omega) (wcells_set (by omega) (by simp [nextW, show ¬ x < 16 by omega])) hs6 (by first | exact u0 | exact u1 | exact u2 | exact u3 | exact u4 | exact u5)) ?_
    rintro _ w7 hs7
    refine TW.done (nxt ?_)
    repeat (first | refine W.seq ?_ | refine W.region ?_)
    refine RL.p rfl rfl rfl (PV_move rfl rfl) ?_
    refine RL.p rfl rfl rfl (PV_add rfl rfl rfl (by omega)) ?_
    refine RL.p rfl rfl rfl (PV_assign rfl rfl) ?_
    refine RL.done (round_end (x + 1) ?_ ?_ ?_)
    · repeat first | exact Sub.nil | refine Sub.cons rfl ?_
    · exact ⟨by omega, by omega, hs7⟩
    · first | omega | (dsimp only; omega)
  repeat (first | refine W.seq ?_ | refine W.region ?_)
  refine  W.exit (nxt ?_)
  obtain rfl : x = 64 := by have := of_decide_eq_false h2; omega
  repeat (first | refine W.seq ?_ | refine W.region ?_)
  refine RL.p rfl rfl rfl (PV_move rfl rfl) ?_
  refine RL.p rfl rfl rfl (PV_nilCheckP rfl rfl) ?_
  refine RL.s rfl rfl rfl (PV_loadMA rfl ag155 sz155 rfl (by first | exact m0 | exact m1 | exact m2 | exact m3 | exact m4 | exact m5) (by rw [length_w32, h8]; decide) (part_whole (by rw [length_w32, h8]))) hs3 ?_
  refine RL.e rfl rfl rfl (EF_allocA rfl zr155 hs3) ?_
  rintro _ w4 ⟨b9, rfl, hs4⟩
  refine RL.e0 rfl rfl (EF_storeA (cs := zl155) rfl rfl rfl sz155 (by rw [length_w32, h8]; rfl) (one1_w32 _) hs4 (by first | exact u0 | exact u1 | exact u2 | exact u3 | exact u4 | exact u5)) ?_
  rintro _ w5 hs5
  refine RL.done (nxt ?_)
  repeat (first | refine W.seq ?_ | refine W.region ?_)
  refine RL.p rfl rfl rfl (PV_move rfl rfl) ?_
  refine RL.done (nxt ?_)
  repeat (first | refine W.seq ?_ | refine W.region ?_)
  refine W.block ?_
  repeat (first | refine W.seq ?_ | refine W.region ?_)
  refine W.loop (F := fun x : Nat => [(83, .int .i64 (x : Int)), (9, ptr b9 0), (6, ptr b6 0), (0, ptr bs 0), (2, ptr bk 0)]) (J := fun x w => x ≤ 64 ∧ Sat G ((b9, w32 (rnds l s x), 155) :: (b6, wcells l 64, 156) :: (bs, w32 s, 155) :: M) I w) (m := fun x => 64 - x) 0 (by repeat first | exact Sub.nil | refine Sub.cons rfl ?_) ⟨by omega, by rw [rnds_zero]; exact hs5⟩ ?_
  rintro x w6 ⟨hx, hs6⟩
  repeat (first | refine W.seq ?_ | refine W.region ?_)
  refine RL.p rfl rfl rfl (PV_lss rfl rfl rfl) ?_
  refine RL.done (nxt ?_)
  repeat (first | refine W.seq ?_ | refine W.region ?_)
  refine W.cond rfl (fun h3 => ?_) (fun h3 => ?_)
  ·
    have hx1 : x < 64 := by have := of_decide_eq_true h3; omega
    have hr : (rnds l s x).length = 8 := length_rnds l s h8 x
    refine W.skip (nxt ?_)
    repeat (first | refine W.seq ?_ | refine W.region ?_)
    refine W.block ?_
    repeat (first | refine W.seq ?_ | refine W.region ?_)
    refine RL.p rfl rfl rfl (PV_move rfl rfl) ?_
    refine RL.p rfl rfl rfl (PV_assign rfl rfl) ?_
    refine RL.done (nxt ?_)
    repeat (first | refine W.seq ?_ | refine W.region ?_)
    refine W.drawsH hs6 [(0, true), (1, true), (2, true), (3, true), (6, true), (7, true), (8, true), (9, true), (10, true), (11, true), (14, true), (15, true), (16, true), (17, true), (18, true), (20, true), (21, true), (22, true), (4, false), (5, true), (12, false), (13, false), (19, false), (23, false), (24, false)] mixed (by kernel_rfl) (by kernel_rfl) ?_
    have hs7 := hs6.drew
    refine TW.p rfl rfl rfl rfl (PV_indexArr1 7 rfl Tryz.underlying155 sz153 rfl rfl rfl (by decide)) hs7 ?_
    refine TW.s rfl rfl rfl rfl (PV_loadM1 rfl ag153 rfl (by first | exact m0 | exact m1 | exact m2 | exact m3 | exact m4 | exact m5) (by first | exact w32_get (by omega) | exact wcells_get (by omega) | exact bc_get (by omega) | rfl)) hs7 ?_
    refine TW.p rfl rfl rfl rfl (PV_indexArr1 4 rfl Tryz.underlying155 sz153 rfl rfl rfl (by decide)) hs7 ?_
    refine TW.s rfl rfl rfl rfl (PV_loadM1 rfl ag153 rfl (by first | exact m0 | exact m1 | exact m2 | exact m3 | exact m4 | exact m5) (by first | exact w32_get (by omega) | exact wcells_get (by omega) | exact bc_get (by omega) | rfl)) hs7 ?_
    refine TW.p rfl rfl rfl rfl (PV_indexArr1 4 rfl Tryz.underlying155 sz153 rfl rfl rfl (by decide)) hs7 ?_
    refine TW.s rfl rfl rfl rfl (PV_loadM1 rfl ag153 rfl (by first | exact m0 | exact m1 | exact m2 | exact m3 | exact m4 | exact m5) (by first | exact w32_get (by omega) | exact wcells_get (by omega) | exact bc_get (by omega) | rfl)) hs7 ?_
    refine TW.p rfl rfl rfl rfl (PV_indexArr1 5 rfl Tryz.underlying155 sz153 rfl rfl rfl (by decide)) hs7 ?_
    refine TW.s rfl rfl rfl rfl (PV_loadM1 rfl ag153 rfl (by first | exact m0 | exact m1 | exact m2 | exact m3 | exact m4 | exact m5) (by first | exact w32_get (by omega) | exact wcells_get (by omega) | exact bc_get (by omega) | rfl)) hs7 ?_
    refine TW.p rfl rfl rfl rfl (PV_indexArr1 6 rfl Tryz.underlying155 sz153 rfl rfl rfl (by decide)) hs7 ?_
    refine TW.s rfl rfl rfl rfl (PV_loadM1 rfl ag153 rfl (by first | exact m0 | exact m1 | exact m2 | exact m3 | exact m4 | exact m5) (by first | exact w32_get (by omega) | exact wcells_get (by omega) | exact bc_get (by omega) | rfl)) hs7 ?_
    refine TW.p rfl rfl rfl rfl (PV_move rfl rfl) hs7 ?_
    refine TW.p rfl rfl rfl rfl (PV_move rfl rfl) hs7 ?_
    refine TW.p rfl rfl rfl rfl (PV_nilCheckP rfl rfl) hs7 ?_
    refine TW.p rfl rfl rfl rfl (PV_indexArr1 x rfl Tryz.underlying156 sz153 rfl rfl rfl (by omega)) hs7 ?_
    refine TW.s rfl rfl rfl rfl (PV_loadM1 rfl ag153 rfl (List.mem_cons_of_mem _ (List.mem_cons_of_mem _ (List.mem_cons_of_mem _ hk))) (w32_get (by show x < 64; omega))) hs7 ?_
    refine TW.p rfl rfl rfl rfl (PV_move rfl rfl) hs7 ?_
    refine TW.p rfl rfl rfl rfl (PV_indexArr1 x rfl Tryz.underlying156 sz153 rfl rfl rfl (by omega)) hs7 ?_
    refine TW.s rfl rfl rfl rfl (PV_loadM1 rfl ag153 rfl (by first | exact m0 | exact m1 | exact m2 | exact m3 | exact m4 | exact m5) (by first | exact w32_get (by omega) | exact wcells_get (by omega) | exact bc_get (by omega) | rfl)) hs7 ?_
    refine TW.e rfl rfl rfl rfl (K1 rfl fn114 rfl (C114 hs7)) ?_
    rintro _ w8 ⟨rfl, hs8⟩
    refine ⟨hs8, ?_⟩
    refine TW.p rfl rfl rfl rfl (PV_u32_add rfl rfl rfl) hs8 ?_
    refine TW.e rfl rfl rfl rfl (K3 rfl fn115 rfl rfl rfl (C115 hs8)) ?_
    rintro _ w9 ⟨rfl, hs9⟩
    refine ⟨hs9, ?_⟩
    refine TW.q rfl rfl rfl rfl (T := fun _ => True) (PV_u32_add rfl rfl rfl) trivial (fun _ => hs9) ?_
    refine TW.q rfl rfl rfl rfl (T := fun _ => True) (PV_u32_add rfl rfl rfl) trivial (fun _ => hs9) ?_
    refine TW.q rfl rfl rfl rfl (T := fun _ => True) (PV_u32_add rfl rfl rfl) trivial (fun _ => hs9) ?_
    refine TW.qn rfl rfl rfl rfl (T := fun _ => True) (PV_assign rfl rfl) trivial (by kernel_rfl) ?_
    refine TW.done (nxt ?_)
    repeat (first | refine W.seq ?_ | refine W.region ?_)
    refine W.drawsH hs9 [(0, true), (1, true), (3, true), (4, true), (5, true), (6, true), (7, true), (8, true), (2, false), (9, false), (10, false), (11, false)] mixed (by kernel_rfl) (by kernel_rfl) ?_
    have hs10 := hs9.drew
    refine TW.p rfl rfl rfl rfl (PV_indexArr1 0 rfl Tryz.underlying155 sz153 rfl rfl rfl (by decide)) hs10 ?_
    refine TW.s rfl rfl rfl rfl (PV_loadM1 rfl ag153 rfl (by first | exact m0 | exact m1 | exact m2 | exact m3 | exact m4 | exact m5) (by first | exact w32_get (by omega) | exact wcells_get (by omega) | exact bc_get (by omega) | rfl)) hs10 ?_
    refine TW.p rfl rfl rfl rfl (PV_indexArr1 0 rfl Tryz.underlying155 sz153 rfl rfl rfl (by decide)) hs10 ?_
    refine TW.s rfl rfl rfl rfl (PV_loadM1 rfl ag153 rfl (by first | exact m0 | exact m1 | exact m2 | exact m3 | exact m4 | exact m5) (by first | exact w32_get (by omega) | exact wcells_get (by omega) | exact bc_get (by omega) | rfl)) hs10 ?_
    refine TW.p rfl rfl rfl rfl (PV_indexArr1 1 rfl Tryz.underlying155 sz153 rfl rfl rfl (by decide)) hs10 ?_
    refine TW.s rfl rfl rfl rfl (PV_loadM1 rfl ag153 rfl (by first | exact m0 | exact m1 | exact m2 | exact m3 | exact m4 | exact m5) (by first | exact w32_get (by omega) | exact wcells_get (by omega) | exact bc_get (by omega) | rfl)) hs10 ?_
    refine TW.p rfl rfl rfl rfl (PV_indexArr1 2 rfl Tryz.underlying155 sz153 rfl rfl rfl (by decide)) hs10 ?_
    refine TW.s rfl rfl rfl rfl (PV_loadM1 rfl ag153 rfl (by first | exact m0 | exact m1 | exact m2 | exact m3 | exact m4 | exact m5) (by first | exact w32_get (by omega) | exact wcells_get (by omega) | exact bc_get (by omega) | rfl)) hs10 ?_
    refine TW.e rfl rfl rfl rfl (K1 rfl fn116 rfl (C116 hs10)) ?_
    rintro _ w11 ⟨rfl, hs11⟩
    refine ⟨hs11, ?_⟩
    refine TW.e rfl rfl rfl rfl (K3 rfl fn117 rfl rfl rfl (C117 hs11)) ?_
    rintro _ w12 ⟨rfl, hs12⟩
    refine ⟨hs12, ?_⟩
    refine TW.q rfl rfl rfl rfl (T := fun _ => True) (PV_u32_add rfl rfl rfl) trivial (fun _ => hs12) ?_
    refine TW.qn rfl rfl rfl rfl (T := fun _ => True) (PV_assign rfl rfl) trivial (by kernel_rfl) ?_
    refine TW.done (nxt ?_)
    repeat (first | refine W.seq ?_ | refine W.region ?_)
    refine RL.p rfl rfl rfl (PV_move rfl rfl) ?_
    refine RL.p rfl rfl rfl (PV_move rfl rfl) ?_
    refine RL.p rfl rfl rfl (PV_u32_add rfl rfl rfl) ?_
    refine RL.p rfl rfl rfl (PV_indexArr1 0 rfl Tryz.underlying155 sz153 rfl rfl rfl (by decide)) ?_
    refine RL.s rfl rfl rfl (PV_loadM1 rfl ag153 rfl (by first | exact m0 | exact m1 | exact m2 | exact m3 | exact m4 | exact m5) (by first | exact w32_get (by omega) | exact wcells_get (by omega) | exact bc_get (by omega) | rfl)) hs12 ?_
    refine RL.p rfl rfl rfl (PV_indexArr1 1 rfl Tryz.underlying155 sz153 rfl rfl rfl (by decide)) ?_
    refine RL.s rfl rfl rfl (PV_loadM1 rfl ag153 rfl (by first | exact m0 | exact m1 | exact m2 | exact m3 | exact m4 | exact m5) (by first | exact w32_get (by omega) | exact wcells_get (by omega) | exact bc_get (by omega) | rfl)) hs12 ?_
    refine RL.p rfl rfl rfl (PV_indexArr1 2 rfl Tryz.underlying155 sz153 rfl rfl rfl (by decide)) ?_
    refine RL.s rfl rfl rfl (PV_loadM1 rfl ag153 rfl (by first | exact m0 | exact m1 | exact m2 | exact m3 | exact m4 | exact m5) (by first | exact w32_get (by omega) | exact wcells_get (by omega) | exact bc_get (by omega) | rfl)) hs12 ?_
    refine RL.p rfl rfl rfl (PV_indexArr1 3 rfl Tryz.underlying155 sz153 rfl rfl rfl (by decide)) ?_
    refine RL.s rfl rfl rfl (PV_loadM1 rfl ag153 rfl (by first | exact m0 | exact m1 | exact m2 | exact m3 | exact m4 | exact m5) (by first | exact w32_get (by omega) | exact wcells_get (by omega) | exact bc_get (by omega) | rfl)) hs12 ?_
    refine RL.p rfl rfl rfl (PV_move rfl rfl) ?_
    refine RL.p rfl rfl rfl (PV_u32_add rfl rfl rfl) ?_
    refine RL.p rfl rfl rfl (PV_indexArr1 4 rfl Tryz.underlying155 sz153 rfl rfl rfl (by decide)) ?_
    refine RL.s rfl rfl rfl (PV_loadM1 rfl ag153 rfl (by first | exact m0 | exact m1 | exact m2 | exact m3 | exact m4 | exact m5) (by first | exact w32_get (by omega) | exact wcells_get (by omega) | exact bc_get (by omega) | rfl)) hs12 ?_
    refine RL.p rfl rfl rfl (PV_indexArr1 5 rfl Tryz.underlying155 sz153 rfl rfl rfl (by decide)) ?_
    refine RL.s rfl rfl rfl (PV_loadM1 rfl ag153 rfl (by first | exact m0 | exact m1 | exact m2 | exact m3 | exact m4 | exact m5) (by first | exact w32_get (by omega) | exact wcells_get (by omega) | exact bc_get (by omega) | rfl)) hs12 ?_
    refine RL.p rfl rfl rfl (PV_indexArr1 6 rfl Tryz.underlying155 sz153 rfl rfl rfl (by decide)) ?_
    refine RL.s rfl rfl rfl (PV_loadM1 rfl ag153 rfl (by first | exact m0 | exact m1 | exact m2 | exact m3 | exact m4 | exact m5) (by first | exact w32_get (by omega) | exact wcells_get (by omega) | exact bc_get (by omega) | rfl)) hs12 ?_
    refine RL.p rfl rfl rfl (PV_arr (ops := [.tmp 123, .tmp 125, .tmp 127, .tmp 129, .tmp 133, .tmp 135, .tmp 137, .tmp 139]) (vs := w32 (rnd l (rnds l s x) x)) rfl rfl Tryz.underlying155 sz153 zr155 rfl rfl (one1_w32 _)) ?_
    refine RL.e0 rfl rfl (EF_storeA (cs := w32 (rnds l s x)) rfl rfl rfl (by rw [length_w32, hr]; exact sz155) (by rw [length_w32, length_w32, hr]; rfl) (one1_w32 _) hs12 (by first | exact u0 | exact u1 | exact u2 | exact u3 | exact u4 | exact u5)) ?_
    rintro _ w13 hs13
    refine RL.done (nxt ?_)
    repeat (first | refine W.seq ?_ | refine W.region ?_)
    refine RL.p rfl rfl rfl (PV_add rfl rfl rfl (by omega)) ?_
    refine RL.p rfl rfl rfl (PV_move rfl rfl) ?_
    refine RL.done (round_end (x + 1) ?_ ?_ ?_)
    · repeat first | exact Sub.nil | refine Sub.cons rfl ?_
    · exact ⟨by omega, by rw [rnds_succ]; exact hs13⟩
    · first | omega | (dsimp only; omega)
  repeat (first | refine W.seq ?_ | refine W.region ?_)
  refine  W.exit (nxt ?_)
  obtain rfl : x = 64 := by have := of_decide_eq_false h3; omega
  repeat (first | refine W.seq ?_ | refine W.region ?_)
  refine RL.p rfl rfl rfl (PV_move rfl rfl) ?_
  refine RL.done (nxt ?_)
  repeat (first | refine W.seq ?_ | refine W.region ?_)
  refine W.block ?_
  repeat (first | refine W.seq ?_ | refine W.region ?_)
  refine W.loop (F := fun x : Nat => [(142, .int .i64 (x : Int)), (9, ptr b9 0), (0, ptr bs 0)]) (J := fun x w => x ≤ 8 ∧ Sat G ((b9, w32 (rnds l s 64), 155) :: (b6, wcells l 64, 156) :: (bs, w32 (addW s (rnds l s 64) x), 155) :: M) I w) (m := fun x => 8 - x) 0 (by repeat first | exact Sub.nil | refine Sub.cons rfl ?_) ⟨by omega, by rw [addW_zero]; exact hs6⟩ ?_
  rintro x w7 ⟨hx, hs7⟩
  repeat (first | refine W.seq ?_ | refine W.region ?_)
  refine RL.p rfl rfl rfl (PV_lss rfl rfl rfl) ?_
  refine RL.done (nxt ?_)
  repeat (first | refine W.seq ?_ | refine W.region ?_)
  refine W.cond rfl (fun h4 => ?_) (fun h4 => ?_)
  ·
    have hx1 : x < 8 := by have := of_decide_eq_true h4; omega
    have hr : (rnds l s 64).length = 8 := length_rnds l s h8 64
    have ha : (addW s (rnds l s 64) x).length = 8 := by rw [length_addW, h8]
    refine W.skip (nxt ?_)
    repeat (first | refine W.seq ?_ | refine W.region ?_)
    refine W.block ?_
    repeat (first | refine W.seq ?_ | refine W.region ?_)
    refine RL.p rfl rfl rfl (PV_move rfl rfl) ?_
    refine RL.p rfl rfl rfl (PV_assign rfl rfl) ?_
    refine RL.done (nxt ?_)
    repeat (first | refine W.seq ?_ | refine W.region ?_)
    refine W.drawsH hs7 [(0, true), (1, true), (2, true), (3, true), (4, true), (5, true), (6, true), (7, true), (8, true), (9, false), (10, false), (11, false)] mixed (by kernel_rfl) (by kernel_rfl) ?_
    have hs8 := hs7.drew
    refine TW.p rfl rfl rfl rfl (PV_move rfl rfl) hs8 ?_
    refine TW.p rfl rfl rfl rfl (PV_move rfl rfl) hs8 ?_
    refine TW.p rfl rfl rfl rfl (PV_nilCheckP rfl rfl) hs8 ?_
    refine TW.p rfl rfl rfl rfl (PV_indexArr1 x rfl Tryz.underlying155 sz153 rfl rfl rfl (by omega)) hs8 ?_
    refine TW.s rfl rfl rfl rfl (PV_loadM1 rfl ag153 rfl (by first | exact m0 | exact m1 | exact m2 | exact m3 | exact m4 | exact m5) (by first | exact w32_get (by omega) | exact wcells_get (by omega) | exact bc_get (by omega) | rfl)) hs8 ?_
    refine TW.p rfl rfl rfl rfl (PV_move rfl rfl) hs8 ?_
    refine TW.p rfl rfl rfl rfl (PV_indexArr1 x rfl Tryz.underlying155 sz153 rfl rfl rfl (by omega)) hs8 ?_
    refine TW.s rfl rfl rfl rfl (PV_loadM1 rfl ag153 rfl (by first | exact m0 | exact m1 | exact m2 | exact m3 | exact m4 | exact m5) (by first | exact w32_get (by omega) | exact wcells_get (by omega) | exact bc_get (by omega) | rfl)) hs8 ?_
    refine TW.p rfl rfl rfl rfl (PV_u32_add rfl rfl rfl) hs8 ?_
    refine TW.q rfl rfl rfl rfl (T := fun _ => True) (PV_nilCheckP rfl rfl) trivial (fun _ => hs8) ?_
    refine TW.qn rfl rfl rfl rfl (T := fun _ => True) (PV_indexArr1 x rfl Tryz.underlying155 sz153 rfl rfl rfl (by omega)) trivial (by kernel_rfl) ?_
    refine TW.en0 rfl rfl rfl (by kernel_rfl) (EF_storeC (cs := w32 (addW s (rnds l s 64) x)) rfl rfl rfl sz153 rfl (by rw [length_w32, ha]; omega) (show _ = w32 (addW s (rnds l s 64) (x + 1)) by rw [w32_set, gw_addW h8 hx1, addW_succ]) hs8 (by first | exact u0 | exact u1 | exact u2 | exact u3 | exact u4 | exact u5)) ?_
    rintro _ w9 hs9
    refine TW.done (nxt ?_)
    repeat (first | refine W.seq ?_ | refine W.region ?_)
    refine RL.p rfl rfl rfl (PV_add rfl rfl rfl (by omega)) ?_
    refine RL.p rfl rfl rfl (PV_move rfl rfl) ?_
    refine RL.done (round_end (x + 1) ?_ ?_ ?_)
    · repeat first | exact Sub.nil | refine Sub.cons rfl ?_
    · exact ⟨by omega, hs9⟩
    · first | omega | (dsimp only; omega)
  repeat (first | refine W.seq ?_ | refine W.region ?_)
  obtain rfl : x = 8 := by have := of_decide_eq_false h4; omega
  exact W.exit (end_none rfl ⟨_, rfl, rfl, by rw [blk_def]; exact hs7.tail.tail⟩)

end Go.Proofs.YtecbpmgfikgoaaaGreatDoor
end
section
set_option linter.unusedVariables false
set_option linter.unusedSimpArgs false
namespace Go.Proofs.YtecbpmgfikgoaaaGreatDoor
open Go Go.RowKit

theorem gb_take {a b : List UInt8} (h : a.take 64 = b.take 64) {j : Nat} (hj : j < 64) : gb a j = gb b j := by
  have h1 : (a.take 64)[j]? = (b.take 64)[j]? := by rw [h]
  simp only [List.getElem?_take, hj, if_true] at h1
  simp [gb, List.getD_eq_getElem?_getD, h1]
theorem be_congr {a b : List UInt8} (h : a.take 64 = b.take 64) {i : Nat} (hi : i < 16) : be a i = be b i := by
  simp only [be, gb_take h (show 4 * i < 64 by omega), gb_take h (show 4 * i + 1 < 64 by omega), gb_take h (show 4 * i + 2 < 64 by omega), gb_take h (show 4 * i + 3 < 64 by omega)]
theorem nextW_congr {a b : List UInt8} (h : a.take 64 = b.take 64) (l : List UInt32) (i : Nat) : nextW a l i = nextW b l i := by
  unfold nextW
  split
  · exact be_congr h ‹_›
  · rfl
theorem ws_congr {a b : List UInt8} (h : a.take 64 = b.take 64) (i : Nat) : ws a i = ws b i := by
  induction i with
  | zero => rw [ws_zero, ws_zero]
  | succ i ih => rw [ws_succ, ws_succ, ih, nextW_congr h]
theorem rnds_congr {a b : List UInt8} (h : a.take 64 = b.take 64) (s : List UInt32) (i : Nat) : rnds a s i = rnds b s i := by
  induction i with
  | zero => rw [rnds_zero, rnds_zero]
  | succ i ih => rw [rnds_succ, rnds_succ, ih, rnd, rnd, t1, t1, ws_congr h]
theorem blk_congr {a b : List UInt8} (h : a.take 64 = b.take 64) (s : List UInt32) : blk s a = blk s b := by rw [blk_def, blk_def, rnds_congr h]
theorem blks_congr {a b : List UInt8} (s : List UInt32) : ∀ i, a.take (64 * i) = b.take (64 * i) → blks s a i = blks s b i := by
  intro i
  induction i with
  | zero => intro _; rw [blks_zero, blks_zero]
  | succ i ih =>
    intro h
    have h1 : a.take (64 * i) = b.take (64 * i) := by
      have := congrArg (List.take (64 * i)) h
      simpa [List.take_take, Nat.min_eq_left (show 64 * i ≤ 64 * (i + 1) by omega)] using this
    have h2 : (a.drop (64 * i)).take 64 = (b.drop (64 * i)).take 64 := by
      have := congrArg (List.drop (64 * i)) h
      simpa [List.drop_take, show 64 * (i + 1) - 64 * i = 64 by omega] using this
    rw [blks_succ, blks_succ, ih h1, blk_congr h2]
theorem blks_padded (l : List UInt8) (s : List UInt32) {x : Nat} (h : 64 * x ≤ l.length) : blks s l x = blks s (padded l) x := by
  refine blks_congr s x ?_
  simp [padded, List.take_append_of_le_length, h]

/-- How many bytes of the last blocks. -/
def endOf (r : Nat) : Nat := if r < 56 then 64 else 128
theorem padZ_eq {n x : Nat} (h : 64 * x ≤ n) (h' : n < 64 * x + 64) : padZ n = endOf (n - 64 * x) - 9 - (n - 64 * x) := by
  have : n % 64 = n - 64 * x := by omega
  unfold padZ endOf
  rw [this]
  split <;> omega
theorem length_padded (l : List UInt8) {x : Nat} (h : 64 * x ≤ l.length) (h' : l.length < 64 * x + 64) : (padded l).length = 64 * x + endOf (l.length - 64 * x) := by
  simp only [padded, List.length_append, List.length_replicate, len8, List.length_map, List.length_range, padZ_eq h h', List.length_cons, List.length_nil]
  unfold endOf
  split <;> omega

def tabf (rest : List UInt8) (e N j k : Nat) : UInt8 :=
  if k < rest.length then gb rest k else if k = rest.length then 0x80 else if e - j ≤ k ∧ k < e then UInt8.ofNat (N * 8 / 2 ^ (8 * (e - 1 - k))) else 0
def lastL (rest : List UInt8) (e N j : Nat) : List UInt8 := (List.range 128).map (tabf rest e N j)
theorem length_lastL (rest : List UInt8) (e N j : Nat) : (lastL rest e N j).length = 128 := by simp [lastL]
theorem last0 (rest : List UInt8) (e N : Nat) (h : rest.length < 64) (he : e ≤ 128) :
    (splice zl160 0 ((bcells rest).take (min rest.length 128 * 1))).set rest.length (.int .u8 128) = bcells (lastL rest e N 0) := by
  have hz : zl160 = bcells (List.replicate 128 0) := rfl
  have hm : min rest.length 128 * 1 = (bcells rest).length := by rw [length_bcells]; omega
  rw [hm, List.take_length, hz]
  apply List.ext_getElem?
  intro k
  have hv : (Value.int .u8 128) = u8v 0x80 := rfl
  rw [hv]
  simp only [splice, List.take_zero, List.nil_append, Nat.zero_add, bcells, ← List.map_append, ← List.map_drop, ← List.map_set, List.getElem?_map, List.length_map]
  congr 1
  rw [List.getElem?_set]
  simp only [List.length_append, List.length_drop, List.length_replicate, lastL, List.getElem?_map, List.getElem?_range']
  by_cases h1 : rest.length = k
  · subst h1
    simp [tabf, show rest.length < rest.length + (128 - rest.length) by omega, List.getElem?_range (show rest.length < 128 by omega)]
  · simp only [h1, if_false]
    by_cases h2 : k < rest.length
    · rw [List.getElem?_append_left h2, List.getElem?_range (by omega)]
      simp [tabf, h2, gb, List.getElem?_eq_getElem h2]
    · rw [List.getElem?_append_right (by omega)]
      by_cases h3 : k < 128
      · rw [List.getElem?_range h3, List.getElem?_drop, List.getElem?_replicate]
        simp [tabf, h2, Ne.symm h1, show rest.length + (k - rest.length) < 128 by omega]
        omega
      · rw [List.getElem?_eq_none (by simp; omega), List.getElem?_eq_none (by simp; omega)]
        rfl
theorem lastS (rest : List UInt8) (e N j : Nat) (hj : j < 8) (he : rest.length < e - 8) (he' : e ≤ 128) (h8 : 8 ≤ e) :
    (bcells (lastL rest e N j)).set (e - 1 - j) (u8v (UInt8.ofNat (N * 8 / 2 ^ (8 * j)))) = bcells (lastL rest e N (j + 1)) := by
  apply List.ext_getElem?
  intro k
  simp only [bcells, ← List.map_set, List.getElem?_map]
  congr 1
  rw [List.getElem?_set, length_lastL]
  simp only [lastL, List.getElem?_map]
  by_cases h3 : k < 128
  · rw [List.getElem?_range h3]
    by_cases h1 : e - 1 - j = k
    · subst h1
      have hx : e - 1 - (e - 1 - j) = j := by omega
      simp [h3, tabf, show ¬ (e - 1 - j < rest.length) by omega, show ¬ (e - 1 - j = rest.length) by omega, show e - (j + 1) ≤ e - 1 - j by omega, show e - 1 - j < e by omega, hx]
    · simp only [h1, if_false, Option.map_some, Option.some.injEq]
      have : (e - j ≤ k ∧ k < e) ↔ (e - (j + 1) ≤ k ∧ k < e) := by omega
      unfold tabf
      simp only [this]
  · rw [if_neg (by omega), List.getElem?_eq_none (by simp; omega)]
    rfl
theorem last8 (l : List UInt8) {x : Nat} (h : 64 * x ≤ l.length) (h' : l.length < 64 * x + 64) :
    (lastL (l.drop (64 * x)) (endOf (l.length - 64 * x)) l.length 8).take (endOf (l.length - 64 * x)) = (padded l).drop (64 * x) := by
  have hlen : (l.drop (64 * x)).length = l.length - 64 * x := by simp
  have he : l.length - 64 * x + 8 < endOf (l.length - 64 * x) := by unfold endOf; split <;> omega
  have he' : endOf (l.length - 64 * x) ≤ 128 := by unfold endOf; split <;> omega
  have hz := padZ_eq h h'
  generalize hE : endOf (l.length - 64 * x) = e at *
  generalize hr : l.drop (64 * x) = r at *
  have hd : (padded l).drop (64 * x) = r ++ [0x80] ++ List.replicate (e - 9 - r.length) 0 ++ len8 l.length := by
    rw [padded, List.append_assoc, List.append_assoc, List.drop_append_of_le_length h, hr, hz, hlen]
    simp [List.append_assoc]
  rw [hd]
  apply List.ext_getElem?
  intro k
  rw [List.getElem?_take]
  by_cases hk : k < e
  · rw [if_pos hk, lastL, List.getElem?_map, List.getElem?_range (by omega), Option.map_some]
    unfold tabf
    by_cases h1 : k < r.length
    · rw [if_pos h1, List.append_assoc, List.append_assoc, List.getElem?_append_left h1, List.getElem?_eq_getElem h1]
      simp [gb, List.getElem?_eq_getElem h1]
    · rw [if_neg h1, List.append_assoc, List.append_assoc, List.getElem?_append_right (by omega)]
      by_cases h2 : k = r.length
      · rw [if_pos h2, h2, Nat.sub_self]
        rfl
      · rw [if_neg h2, List.getElem?_append_right (by simp; omega)]
        simp only [List.length_cons, List.length_nil, Nat.zero_add]
        by_cases h3 : e - 8 ≤ k
        · rw [if_pos ⟨h3, hk⟩, List.getElem?_append_right (by simp; omega)]
          simp only [List.length_replicate, len8, List.getElem?_map]
          have h4 : k - r.length - 1 - (e - 9 - r.length) = k - (e - 8) := by omega
          rw [h4, List.getElem?_range (by omega), Option.map_some]
          congr 4
          omega
        · rw [if_neg (by omega), List.getElem?_append_left (by simp; omega), List.getElem?_replicate, if_pos (by omega)]
  · rw [if_neg hk, List.getElem?_eq_none]
    simp [len8]
    omega
theorem last_blk (l : List UInt8) {x y : Nat} (h : 64 * x ≤ l.length) (h' : l.length < 64 * x + 64) (hy : 64 * (y + 1) ≤ endOf (l.length - 64 * x)) (s : List UInt32) :
    blk s ((lastL (l.drop (64 * x)) (endOf (l.length - 64 * x)) l.length 8).drop (64 * y)) = blk s ((padded l).drop (64 * (x + y))) := by
  refine blk_congr ?_ s
  have h1 := last8 l h h'
  have h2 : (padded l).drop (64 * (x + y)) = ((padded l).drop (64 * x)).drop (64 * y) := by rw [List.drop_drop]; congr 1; omega
  rw [h2, ← h1, List.drop_take, List.take_take, Nat.min_eq_left (by omega)]
theorem sha_last (l : List UInt8) {x : Nat} (h : 64 * x ≤ l.length) (h' : l.length < 64 * x + 64) : sha l = (blks iv256 (padded l) (x + endOf (l.length - 64 * x) / 64)).flatMap out4 := by
  rw [sha_def, length_padded l h h']
  congr 2
  omega

/-- The digest's bytes, as far as they are laid. -/
def outc (s : List UInt32) (y : Nat) : List Value := bcells ((s.take y).flatMap out4) ++ List.replicate (32 - 4 * y) (.int .u8 0)
theorem length_outs (s : List UInt32) (y : Nat) (h : y ≤ s.length) : (bcells ((s.take y).flatMap out4)).length = 4 * y := by
  rw [length_bcells]
  have h : ∀ (q : List UInt32), (q.flatMap out4).length = 4 * q.length := by
    intro q
    induction q with
    | nil => rfl
    | cons x q ih => simp [List.flatMap_cons, ih, out4]; omega
  rw [h, List.length_take]
  omega
theorem length_outc (s : List UInt32) (y : Nat) (h : y ≤ 8) (hs : s.length = 8) : (outc s y).length = 32 := by
  rw [outc, List.length_append, length_outs s y (by omega), List.length_replicate]
  omega
theorem outc_zero (s : List UInt32) : outc s 0 = zl24 := rfl
theorem outc_eight (s : List UInt32) (hs : s.length = 8) : outc s 8 = bcells (s.flatMap out4) := by
  rw [outc, ← hs, List.take_length, hs]
  simp
theorem set4 (A Z : List Value) (z a b c d : Value) {m : Nat} (hm : A.length = m) : ((((A ++ z :: z :: z :: z :: Z).set m a).set (m + 1) b).set (m + 2) c).set (m + 3) d = A ++ a :: b :: c :: d :: Z := by
  subst hm
  simp [List.set_append_right]
theorem outc_set (s : List UInt32) {y : Nat} (hy : y < 8) (hs : s.length = 8) :
    ((((outc s y).set (4 * y) (u8v (gw s y >>> 24).toUInt8)).set (4 * y + 1) (u8v (gw s y >>> 16).toUInt8)).set (4 * y + 2) (u8v (gw s y >>> 8).toUInt8)).set (4 * y + 3) (u8v (gw s y).toUInt8) = outc s (y + 1) := by
  have hl := length_outs s y (by omega)
  have hr : 32 - 4 * y = (32 - 4 * (y + 1)) + 1 + 1 + 1 + 1 := by omega
  have hg : gw s y = s[y]'(by omega) := by simp [gw, List.getElem?_eq_getElem (show y < s.length by omega)]
  rw [outc, hr, List.replicate_succ, List.replicate_succ, List.replicate_succ, List.replicate_succ, set4 _ _ _ _ _ _ _ hl, outc, List.take_succ_eq_append_getElem (by omega), List.flatMap_append, bcells_append, hg]
  simp [out4, bcells]
attribute [irreducible] outc lastL
end Go.Proofs.YtecbpmgfikgoaaaGreatDoor
end
section
set_option linter.unusedVariables false
set_option linter.unusedSimpArgs false
set_option maxRecDepth 8000
set_option maxHeartbeats 4000000
namespace Go.Proofs.YtecbpmgfikgoaaaGreatDoor
open Go Go.RowKit
variable {G w : World} {M : List Chunk} {I : Imm}

theorem SlI.shape {sz m : Nat} {v : Value} {cs : List Value} (h : SlI I sz v m cs) : ∃ A c, v = .slice A m c ∧ m ≤ c := by
  obtain ⟨h1, A, c, h, hc, h2⟩ := h
  exact ⟨A, c, h, hc⟩
theorem SlB.tl {b off m c p : Nat} {l : List UInt8} (h : SlB I (.slice (some ⟨b, off, none⟩) m c) l) (hp : p ≤ l.length) : SlB I (.slice (some ⟨b, if c = p then off else off + p * 1, none⟩) (m - p) (c - p)) (l.drop p) := by
  have hm : m = l.length := by
    obtain ⟨A, c', he, _⟩ := SlI.shape h
    simp at he
    exact he.2.1
  subst hm
  have := SlI.slice h hp (Nat.le_refl _)
  unfold SlB
  rw [List.length_drop]
  have h2 : bcells (l.drop p) = ((bcells l).drop (p * 1)).take ((l.length - p) * 1) := by
    rw [List.take_of_length_le (by simp [length_bcells])]
    simp [bcells]
  rw [h2]
  exact this
theorem part_bdrop (L : List UInt8) (y : Nat) (h : y ≤ L.length) : part (bcells L) (y * 1) (bcells (L.drop y)).length = bcells (L.drop y) := by
  simp only [part, Nat.mul_one]
  rw [List.take_of_length_le (by simp [length_bcells])]
  simp [bcells]

theorem C76 (hs : Sat G M I w) : Calls Tryz.prog 76 #[] w (Ret fun r w' => r = aggL (w32 k256) ∧ Sat G M I w') := by
  refine enter0 Tryz.func76 rfl Tryz.ntmps76 ?_
  repeat (first | refine W.seq ?_ | refine W.region ?_)
  refine RL.e rfl rfl rfl (EF_allocA rfl zr156 hs) ?_
  rintro _ w1 ⟨b0, rfl, hs1⟩
  refine RL.done (nxt ?_)
  repeat (first | refine W.seq ?_ | refine W.region ?_)
  refine RL.p rfl rfl rfl (PV_arr (ops := ((List.map (fun n => Operand.const (.int .u32 n)) [1116352408, 1899447441, 3049323471, 3921009573, 961987163, 1508970993, 2453635748, 2870763221, 3624381080, 310598401, 607225278, 1426881987, 1925078388, 2162078206, 2614888103, 3248222580, 3835390401, 4022224774, 264347078, 604807628, 770255983, 1249150122, 1555081692, 1996064986, 2554220882, 2821834349, 2952996808, 3210313671, 3336571891, 3584528711, 113926993, 338241895, 666307205, 773529912, 1294757372, 1396182291, 1695183700, 1986661051, 2177026350, 2456956037, 2730485921, 2820302411, 3259730800, 3345764771, 3516065817, 3600352804, 4094571909, 275423344, 430227734, 506948616, 659060556, 883997877, 958139571, 1322822218, 1537002063, 1747873779, 1955562222, 2024104815, 2227730452, 2361852424, 2428436474, 2756734187, 3204031479, 3329325298]))) (vs := w32 k256) rfl rfl Tryz.underlying156 sz153 zr156 (by kernel_rfl) rfl (one1_w32 _)) ?_
  refine RL.e0 rfl rfl (EF_storeA (cs := zl156) rfl rfl rfl sz156 rfl (one1_w32 _) hs1 (by first | exact u0 | exact u1 | exact u2 | exact u3 | exact u4 | exact u5)) ?_
  rintro _ w2 hs2
  refine RL.done (nxt ?_)
  repeat (first | refine W.seq ?_ | refine W.region ?_)
  exact W.ret (ret_cell rfl rfl (ldA ag156 sz156 hs2 (by first | exact m0 | exact m1 | exact m2 | exact m3 | exact m4 | exact m5) rfl) ⟨_, rfl, rfl, hs2.tail⟩)

theorem C40 {p : Value} {l : List UInt8} (hp : SlB I p l) (hl : l.length ≤ 2 ^ 40) (hs : Sat G M I w) : Calls Tryz.prog 40 #[p] w (Ret fun r w' => r = aggL (bcells (sha l)) ∧ Sat G M I w') := by
  obtain ⟨A0, c0, rfl, hc0⟩ := SlI.shape hp
  refine enter1 Tryz.func40 rfl Tryz.ntmps40 rfl ?_
  repeat (first | refine W.seq ?_ | refine W.region ?_)
  refine RL.e rfl rfl rfl (EF_allocA rfl zr24 hs) ?_
  rintro _ w1 ⟨b2, rfl, hs1⟩
  refine RL.done (nxt ?_)
  repeat (first | refine W.seq ?_ | refine W.region ?_)
  refine RL.p rfl rfl rfl (PV_arr (ops := ((List.map (fun n => Operand.const (.int .u32 n)) [1779033703, 3144134277, 1013904242, 2773480762, 1359893119, 2600822924, 528734635, 1541459225]))) (vs := w32 iv256) rfl rfl Tryz.underlying155 sz153 zr155 (by kernel_rfl) rfl (one1_w32 _)) ?_
  refine RL.e rfl rfl rfl (EF_allocA rfl zr155 hs1) ?_
  rintro _ w2 ⟨b3, rfl, hs2⟩
  refine RL.e0 rfl rfl (EF_storeA (cs := zl155) rfl rfl rfl sz155 rfl (one1_w32 _) hs2 (by first | exact u0 | exact u1 | exact u2 | exact u3 | exact u4 | exact u5)) ?_
  rintro _ w3 hs3
  refine RL.done (nxt ?_)
  repeat (first | refine W.seq ?_ | refine W.region ?_)
  refine RL.e rfl rfl rfl (K0 rfl fn76 (C76 hs3)) ?_
  rintro _ w4 ⟨rfl, hs4⟩
  refine RL.e rfl rfl rfl (EF_allocA rfl zr156 hs4) ?_
  rintro _ w5 ⟨b4, rfl, hs5⟩
  refine RL.e0 rfl rfl (EF_storeA (cs := zl156) rfl rfl rfl sz156 rfl (one1_w32 _) hs5 (by first | exact u0 | exact u1 | exact u2 | exact u3 | exact u4 | exact u5)) ?_
  rintro _ w6 hs6
  refine RL.done (nxt ?_)
  repeat (first | refine W.seq ?_ | refine W.region ?_)
  refine RL.p rfl rfl rfl (PV_move rfl rfl) ?_
  refine RL.p rfl rfl rfl (PV_assign rfl rfl) ?_
  refine RL.done (nxt ?_)
  repeat (first | refine W.seq ?_ | refine W.region ?_)
  refine W.block ?_
  repeat (first | refine W.seq ?_ | refine W.region ?_)
  refine W.loop (F := fun z : Nat × Value => [(5, z.2), (0, .slice A0 l.length c0), (2, ptr b2 0), (3, ptr b3 0), (4, ptr b4 0)]) (J := fun z w => 64 * z.1 ≤ l.length ∧ SlB I z.2 (l.drop (64 * z.1)) ∧ Sat G ((b3, w32 (blks iv256 l z.1), 155) :: (b4, w32 k256, 156) :: (b2, zl24, 24) :: M) I w) (m := fun z => l.length - 64 * z.1) (0, .slice A0 l.length c0) (by repeat first | exact Sub.nil | refine Sub.cons rfl ?_) ⟨by simp, by simpa using hp, by rw [blks_zero]; exact hs6.sw⟩ ?_
  rintro ⟨x, v⟩ w7 ⟨hx, hv, hs7⟩
  dsimp only at hx hv hs7
  obtain ⟨A, c, rfl, hc⟩ := SlI.shape hv
  have hr : (l.drop (64 * x)).length = l.length - 64 * x := by simp
  repeat (first | refine W.seq ?_ | refine W.region ?_)
  refine RL.p rfl rfl rfl (PV_move rfl rfl) ?_
  refine RL.p rfl rfl rfl (PV_len rfl Tryz.underlying60 rfl) ?_
  refine RL.p rfl rfl rfl (PV_geq rfl rfl rfl) ?_
  refine RL.done (nxt ?_)
  repeat (first | refine W.seq ?_ | refine W.region ?_)
  refine W.cond rfl (fun h1 => ?_) (fun h1 => ?_)
  ·
    have h64 : 64 ≤ (l.drop (64 * x)).length := by have := of_decide_eq_true h1; omega
    obtain ⟨bb, off, c', he, _, hmem⟩ := hv.mem (by omega)
    obtain ⟨rfl, rfl⟩ : A = some ⟨bb, off, none⟩ ∧ c = c' := by simpa using he
    refine  W.skip (nxt ?_)
    repeat (first | refine W.seq ?_ | refine W.region ?_)
    refine W.block ?_
    repeat (first | refine W.seq ?_ | refine W.region ?_)
    refine RL.p rfl rfl rfl (PV_move rfl rfl) ?_
    refine RL.e rfl rfl rfl (K3 rfl fn77 rfl rfl rfl (C77 (length_blks ..) m0 (hmem _ _) h64 rfl hs7)) ?_
    rintro _ w8 ⟨rfl, hs8⟩
    refine RL.done (nxt ?_)
    repeat (first | refine W.seq ?_ | refine W.region ?_)
    refine RL.p rfl rfl rfl (PV_move rfl rfl) ?_
    refine RL.p rfl rfl rfl (PV_sliceSl (p := 64) (r := (l.drop (64 * x)).length) rfl Tryz.underlying60 sz5 rfl (.inr ⟨_, rfl, _, _, rfl, rfl⟩) (.inl ⟨rfl, rfl⟩) h64 hc) ?_
    refine RL.p rfl rfl rfl (PV_assign rfl rfl) ?_
    refine RL.done (round_end (x + 1, .slice (some ⟨bb, if c = 64 then off else off + 64 * 1, none⟩) ((l.drop (64 * x)).length - 64) (c - 64)) ?_ ?_ ?_)
    · repeat first | exact Sub.nil | refine Sub.cons rfl ?_
    · exact ⟨by show 64 * (x + 1) ≤ _; omega, by have := hv.tl h64; rw [List.drop_drop] at this; exact this, by rw [blks_succ]; exact hs8⟩
    · first | omega | (dsimp only; omega)
  repeat (first | refine W.seq ?_ | refine W.region ?_)
  refine  W.exit (nxt ?_)
  have hz160 : zl160.length = 128 := rfl
  have hx64 : l.length < 64 * x + 64 := by have := of_decide_eq_false h1; omega
  obtain ⟨e, he⟩ : ∃ e, e = endOf (l.length - 64 * x) := ⟨_, rfl⟩
  have he8 : l.length - 64 * x + 8 < e := by subst he; unfold endOf; split <;> omega
  have he128 : e = 64 ∨ e = 128 := by subst he; unfold endOf; split <;> simp
  repeat (first | refine W.seq ?_ | refine W.region ?_)
  refine RL.e rfl rfl rfl (EF_allocA rfl zr160 hs7) ?_
  rintro _ w8 ⟨b6, rfl, hs8⟩
  refine RL.done (nxt ?_)
  repeat (first | refine W.seq ?_ | refine W.region ?_)
  refine RL.p rfl rfl rfl (PV_sliceArr rfl Tryz.underlying160 rfl sz5) ?_
  refine RL.p rfl rfl rfl (PV_move rfl rfl) ?_
  refine RL.e rfl rfl rfl (EF_copy rfl el60 rfl rfl (hv.rd hs8) (Nat.le_refl _) (one1_bcells _) hs8 (by first | exact u0 | exact u1 | exact u2 | exact u3 | exact u4 | exact u5)) ?_
  rintro _ w9 ⟨rfl, hs9⟩
  refine RL.p rfl rfl rfl (PV_assign rfl rfl) ?_
  refine RL.done (nxt ?_)
  repeat (first | refine W.seq ?_ | refine W.region ?_)
  refine RL.p rfl rfl rfl (PV_move rfl rfl) ?_
  refine RL.p rfl rfl rfl (PV_indexArr1 (l.drop (64 * x)).length rfl Tryz.underlying160 sz5 rfl rfl (by omega) (by omega)) ?_
  refine RL.e0 rfl rfl (EF_storeC rfl rfl rfl sz5 rfl (by rw [length_splice (by simp [length_bcells]; omega)]; show _ < 128; omega) (last0 (l.drop (64 * x)) e l.length (by omega) (by omega)) hs9 (by first | exact u0 | exact u1 | exact u2 | exact u3 | exact u4 | exact u5)) ?_
  rintro _ w10 hs10
  refine RL.done (nxt ?_)
  repeat (first | refine W.seq ?_ | refine W.region ?_)
  refine RL.p rfl rfl rfl (PV_assign rfl rfl) ?_
  refine RL.done (nxt ?_)
  repeat (first | refine W.seq ?_ | refine W.region ?_)
  refine RL.p rfl rfl rfl (PV_move rfl rfl) ?_
  refine RL.p rfl rfl rfl (PV_geq rfl rfl rfl) ?_
  refine RL.done (nxt ?_)
  repeat (first | refine W.seq ?_ | refine W.region ?_)
  refine W.cut (fun _ : Unit => [(8, .int .i64 (e : Int)), (6, ptr b6 0), (0, .slice A0 l.length c0), (2, ptr b2 0), (3, ptr b3 0), (4, ptr b4 0)]) (fun _ w => Sat G ((b6, bcells (lastL (l.drop (64 * x)) e l.length 0), 160) :: (b3, w32 (blks iv256 l x), 155) :: (b4, w32 k256, 156) :: (b2, zl24, 24) :: M) I w) ?_ (fun _ w hs10 => nxt ?_)
  refine W.cond rfl (fun h2 => ?_) (fun h2 => ?_)
  ·
    repeat (first | refine W.seq ?_ | refine W.region ?_)
    refine RL.p rfl rfl rfl (PV_assign rfl rfl) ?_
    obtain rfl : e = 128 := by have := of_decide_eq_true h2; unfold endOf at he; split at he <;> omega
    refine RL.done (cut_end () ?_ hs10)
    repeat first | exact Sub.nil | refine Sub.cons rfl ?_
  ·
    obtain rfl : e = 64 := by have := of_decide_eq_false h2; unfold endOf at he; split at he <;> omega
    refine W.skip (cut_end () ?_ hs10)
    repeat first | exact Sub.nil | refine Sub.cons rfl ?_
  repeat (first | refine W.seq ?_ | refine W.region ?_)
  refine RL.p rfl rfl rfl (PV_move rfl rfl) ?_
  refine RL.p rfl rfl rfl (PV_len rfl Tryz.underlying60 rfl) ?_
  refine RL.p rfl rfl rfl (PV_conv_i64_u64 rfl Tryz.underlying3 Tryz.underlying161 rfl rfl (by omega)) ?_
  refine RL.p rfl rfl rfl (PV_u64_shl (j := 3) rfl rfl rfl rfl rfl (by decide) (by omega)) ?_
  refine RL.p rfl rfl rfl (PV_assign rfl rfl) ?_
  refine RL.done (nxt ?_)
  repeat (first | refine W.seq ?_ | refine W.region ?_)
  refine RL.p rfl rfl rfl (PV_move rfl rfl) ?_
  refine RL.done (nxt ?_)
  repeat (first | refine W.seq ?_ | refine W.region ?_)
  refine W.block ?_
  repeat (first | refine W.seq ?_ | refine W.region ?_)
  refine W.loop (F := fun j : Nat => [(35, .int .i64 (j : Int)), (8, .int .i64 (e : Int)), (9, .int .u64 ((l.length * 8 : Nat) : Int)), (6, ptr b6 0), (0, .slice A0 l.length c0), (2, ptr b2 0), (3, ptr b3 0), (4, ptr b4 0)]) (J := fun j w => j ≤ 8 ∧ Sat G ((b6, bcells (lastL (l.drop (64 * x)) e l.length j), 160) :: (b3, w32 (blks iv256 l x), 155) :: (b4, w32 k256, 156) :: (b2, zl24, 24) :: M) I w) (m := fun j => 8 - j) 0 (by repeat first | exact Sub.nil | refine Sub.cons rfl ?_) ⟨by omega, hs10⟩ ?_
  rintro j w11 ⟨hj, hs11⟩
  repeat (first | refine W.seq ?_ | refine W.region ?_)
  refine RL.p rfl rfl rfl (PV_lss rfl rfl rfl) ?_
  refine RL.done (nxt ?_)
  repeat (first | refine W.seq ?_ | refine W.region ?_)
  refine W.cond rfl (fun h3 => ?_) (fun h3 => ?_)
  ·
    have hj1 : j < 8 := by have := of_decide_eq_true h3; omega
    refine  W.skip (nxt ?_)
    repeat (first | refine W.seq ?_ | refine W.region ?_)
    refine W.block ?_
    repeat (first | refine W.seq ?_ | refine W.region ?_)
    refine RL.p rfl rfl rfl (PV_move rfl rfl) ?_
    refine RL.p rfl rfl rfl (PV_assign rfl rfl) ?_
    refine RL.done (nxt ?_)
    repeat (first | refine W.seq ?_ | refine W.region ?_)
    refine RL.p rfl rfl rfl (PV_move rfl rfl) ?_
    refine RL.p rfl rfl rfl (PV_sub rfl rfl rfl (by omega)) ?_
    refine RL.p rfl rfl rfl (PV_move rfl rfl) ?_
    refine RL.p rfl rfl rfl (PV_sub rfl rfl rfl (by omega)) ?_
    refine RL.p rfl rfl rfl (PV_move rfl rfl) ?_
    refine RL.p rfl rfl rfl (PV_move rfl rfl) ?_
    refine RL.p rfl rfl rfl (PV_mul rfl rfl rfl (by omega)) ?_
    refine RL.p rfl rfl rfl (PV_u64_shr (j := 8 * j) rfl rfl rfl rfl (by omega) (by omega)) ?_
    refine RL.p rfl rfl rfl (PV_conv_u64_u8 rfl Tryz.underlying161 Tryz.underlying5 rfl  rfl) ?_
    refine RL.p rfl rfl rfl (PV_indexArr1 (e - 1 - j) rfl Tryz.underlying160 sz5 rfl rfl (by omega) (by omega)) ?_
    refine RL.e0 rfl rfl (EF_storeC rfl rfl rfl sz5 rfl (by rw [length_bcells, length_lastL]; omega) (lastS (l.drop (64 * x)) e l.length j hj1 (by omega) (by omega) (by omega)) hs11 (by first | exact u0 | exact u1 | exact u2 | exact u3 | exact u4 | exact u5)) ?_
    rintro _ w12 hs12
    refine RL.done (nxt ?_)
    repeat (first | refine W.seq ?_ | refine W.region ?_)
    refine RL.p rfl rfl rfl (PV_add rfl rfl rfl (by omega)) ?_
    refine RL.p rfl rfl rfl (PV_move rfl rfl) ?_
    refine RL.done (round_end (j + 1) ?_ ?_ ?_)
    · repeat first | exact Sub.nil | refine Sub.cons rfl ?_
    · exact ⟨by omega, hs12⟩
    · first | omega | (dsimp only; omega)
  repeat (first | refine W.seq ?_ | refine W.region ?_)
  refine  W.exit (nxt ?_)
  obtain rfl : j = 8 := by have := of_decide_eq_false h3; omega
  repeat (first | refine W.seq ?_ | refine W.region ?_)
  refine RL.p rfl rfl rfl (PV_assign rfl rfl) ?_
  refine RL.done (nxt ?_)
  repeat (first | refine W.seq ?_ | refine W.region ?_)
  refine W.block ?_
  repeat (first | refine W.seq ?_ | refine W.region ?_)
  refine W.loop (F := fun y : Nat => [(11, .int .i64 ((64 * y : Nat) : Int)), (8, .int .i64 (e : Int)), (6, ptr b6 0), (0, .slice A0 l.length c0), (2, ptr b2 0), (3, ptr b3 0), (4, ptr b4 0)]) (J := fun y w => 64 * y ≤ e ∧ Sat G ((b3, w32 (blks iv256 (padded l) (x + y)), 155) :: (b6, bcells (lastL (l.drop (64 * x)) e l.length 8), 160) :: (b4, w32 k256, 156) :: (b2, zl24, 24) :: M) I w) (m := fun y => e - 64 * y) 0 (by repeat first | exact Sub.nil | refine Sub.cons rfl ?_) ⟨by omega, by rw [Nat.add_zero, ← blks_padded l _ hx]; exact hs11.sw⟩ ?_
  rintro y w12 ⟨hy, hs12⟩
  repeat (first | refine W.seq ?_ | refine W.region ?_)
  refine RL.p rfl rfl rfl (PV_move rfl rfl) ?_
  refine RL.p rfl rfl rfl (PV_move rfl rfl) ?_
  refine RL.p rfl rfl rfl (PV_lss rfl rfl rfl) ?_
  refine RL.done (nxt ?_)
  repeat (first | refine W.seq ?_ | refine W.region ?_)
  refine W.cond rfl (fun h4 => ?_) (fun h4 => ?_)
  ·
    have hy1 : 64 * (y + 1) ≤ e := by have := of_decide_eq_true h4; omega
    refine  W.skip (nxt ?_)
    repeat (first | refine W.seq ?_ | refine W.region ?_)
    refine W.block ?_
    repeat (first | refine W.seq ?_ | refine W.region ?_)
    refine RL.p rfl rfl rfl (PV_move rfl rfl) ?_
    refine RL.p rfl rfl rfl (PV_sliceArrLo (64 * y) rfl Tryz.underlying160 sz5 rfl rfl rfl (by omega)) ?_
    refine RL.e rfl rfl rfl (K3 rfl fn77 rfl rfl rfl (C77 (l := (lastL (l.drop (64 * x)) e l.length 8).drop (64 * y)) (length_blks ..) m1 (Mem.of_own (d := bcells (lastL (l.drop (64 * x)) e l.length 8)) m0 (by rw [length_bcells, length_bcells, List.length_drop, length_lastL]; omega) (part_bdrop _ _ (by rw [length_lastL]; omega))) (by rw [List.length_drop, length_lastL]; omega) (by rw [List.length_drop, length_lastL]) hs12)) ?_
    rintro _ w13 ⟨rfl, hs13⟩
    refine RL.done (nxt ?_)
    repeat (first | refine W.seq ?_ | refine W.region ?_)
    refine RL.p rfl rfl rfl (PV_move rfl rfl) ?_
    refine RL.p rfl rfl rfl (PV_add rfl rfl rfl (by omega)) ?_
    refine RL.p rfl rfl rfl (PV_assign rfl rfl) ?_
    refine RL.done (round_end (y + 1) ?_ ?_ ?_)
    · repeat first | exact Sub.nil | refine Sub.cons rfl ?_
    · exact ⟨by omega, by
      have hb := last_blk l (y := y) hx hx64 (by omega) (blks iv256 (padded l) (x + y))
      rw [← he] at hb
      rw [← Nat.add_assoc, blks_succ, ← hb]
      exact hs13⟩
    · first | omega | (dsimp only; omega)
  repeat (first | refine W.seq ?_ | refine W.region ?_)
  refine  W.exit (nxt ?_)
  have hye : x + y = x + endOf (l.length - 64 * x) / 64 := by have := of_decide_eq_false h4; omega
  have hsl : (blks iv256 (padded l) (x + y)).length = 8 := length_blks ..
  have hsha := sha_last l hx hx64
  rw [← hye] at hsha
  repeat (first | refine W.seq ?_ | refine W.region ?_)
  refine RL.s rfl rfl rfl (PV_loadMA rfl ag155 sz155 rfl (by first | exact m0 | exact m1 | exact m2 | exact m3 | exact m4 | exact m5) (by rw [length_w32, hsl]; decide) (part_whole (by rw [length_w32, hsl]))) hs12 ?_
  refine RL.p rfl rfl rfl (PV_move rfl rfl) ?_
  refine RL.done (nxt ?_)
  repeat (first | refine W.seq ?_ | refine W.region ?_)
  refine W.block ?_
  repeat (first | refine W.seq ?_ | refine W.region ?_)
  refine W.loop (F := fun z : Nat => [(58, .int .i64 (z : Int)), (57, aggL (w32 (blks iv256 (padded l) (x + y)))), (2, ptr b2 0)]) (J := fun z w => z ≤ 8 ∧ Sat G ((b2, outc (blks iv256 (padded l) (x + y)) z, 24) :: M) I w) (m := fun z => 8 - z) 0 (by repeat first | exact Sub.nil | refine Sub.cons rfl ?_) ⟨by omega, by rw [outc_zero]; exact hs12.tail.tail.tail⟩ ?_
  rintro z w13 ⟨hz, hs13⟩
  repeat (first | refine W.seq ?_ | refine W.region ?_)
  refine RL.p rfl rfl rfl (PV_lss rfl rfl rfl) ?_
  refine RL.done (nxt ?_)
  repeat (first | refine W.seq ?_ | refine W.region ?_)
  refine W.cond rfl (fun h5 => ?_) (fun h5 => ?_)
  ·
    have hz1 : z < 8 := by have := of_decide_eq_true h5; omega
    have hlo := length_outc (blks iv256 (padded l) (x + y)) z (by omega) hsl
    refine  W.skip (nxt ?_)
    repeat (first | refine W.seq ?_ | refine W.region ?_)
    refine W.block ?_
    repeat (first | refine W.seq ?_ | refine W.region ?_)
    refine RL.p rfl rfl rfl (PV_move rfl rfl) ?_
    refine RL.p rfl rfl rfl (PV_index rfl Tryz.underlying155 sz153 ag153 rfl rfl rfl (by omega) (w32_get (by omega))) ?_
    refine RL.p rfl rfl rfl (PV_assign rfl rfl) ?_
    refine RL.p rfl rfl rfl (PV_assign rfl rfl) ?_
    refine RL.done (nxt ?_)
    repeat (first | refine W.seq ?_ | refine W.region ?_)
    refine RL.p rfl rfl rfl (PV_move rfl rfl) ?_
    refine RL.p rfl rfl rfl (PV_mul rfl rfl rfl (by omega)) ?_
    refine RL.p rfl rfl rfl (PV_move rfl rfl) ?_
    refine RL.p rfl rfl rfl (PV_mul rfl rfl rfl (by omega)) ?_
    refine RL.p rfl rfl rfl (PV_add rfl rfl rfl (by omega)) ?_
    refine RL.p rfl rfl rfl (PV_move rfl rfl) ?_
    refine RL.p rfl rfl rfl (PV_mul rfl rfl rfl (by omega)) ?_
    refine RL.p rfl rfl rfl (PV_add rfl rfl rfl (by omega)) ?_
    refine RL.p rfl rfl rfl (PV_move rfl rfl) ?_
    refine RL.p rfl rfl rfl (PV_mul rfl rfl rfl (by omega)) ?_
    refine RL.p rfl rfl rfl (PV_add rfl rfl rfl (by omega)) ?_
    refine RL.p rfl rfl rfl (PV_move rfl rfl) ?_
    refine RL.p rfl rfl rfl (PV_u32_shr rfl rfl rfl rfl (by decide)) ?_
    refine RL.p rfl rfl rfl (PV_conv_u32_u8 rfl Tryz.underlying153 Tryz.underlying5 rfl) ?_
    refine RL.p rfl rfl rfl (PV_move rfl rfl) ?_
    refine RL.p rfl rfl rfl (PV_u32_shr rfl rfl rfl rfl (by decide)) ?_
    refine RL.p rfl rfl rfl (PV_conv_u32_u8 rfl Tryz.underlying153 Tryz.underlying5 rfl) ?_
    refine RL.p rfl rfl rfl (PV_move rfl rfl) ?_
    refine RL.p rfl rfl rfl (PV_u32_shr rfl rfl rfl rfl (by decide)) ?_
    refine RL.p rfl rfl rfl (PV_conv_u32_u8 rfl Tryz.underlying153 Tryz.underlying5 rfl) ?_
    refine RL.p rfl rfl rfl (PV_move rfl rfl) ?_
    refine RL.p rfl rfl rfl (PV_conv_u32_u8 rfl Tryz.underlying153 Tryz.underlying5 rfl) ?_
    refine RL.p rfl rfl rfl (PV_indexArr1 (4 * z) rfl Tryz.underlying24 sz5 rfl rfl (by omega) (by omega)) ?_
    refine RL.e0 rfl rfl (EF_storeC (cs := (outc (blks iv256 (padded l) (x + y)) z)) rfl rfl rfl sz5 rfl (by simp only [List.length_set, hlo]; omega) rfl hs13 (by first | exact u0 | exact u1 | exact u2 | exact u3 | exact u4 | exact u5)) ?_
    rintro _ w14 hs14
    refine RL.p rfl rfl rfl (PV_indexArr1 (4 * z + 1) rfl Tryz.underlying24 sz5 rfl rfl (by omega) (by omega)) ?_
    refine RL.e0 rfl rfl (EF_storeC (cs := ((outc (blks iv256 (padded l) (x + y)) z).set (4 * z) (u8v (gw (blks iv256 (padded l) (x + y)) z >>> 24).toUInt8))) rfl rfl rfl sz5 rfl (by simp only [List.length_set, hlo]; omega) rfl hs14 (by first | exact u0 | exact u1 | exact u2 | exact u3 | exact u4 | exact u5)) ?_
    rintro _ w15 hs15
    refine RL.p rfl rfl rfl (PV_indexArr1 (4 * z + 2) rfl Tryz.underlying24 sz5 rfl rfl (by omega) (by omega)) ?_
    refine RL.e0 rfl rfl (EF_storeC (cs := (((outc (blks iv256 (padded l) (x + y)) z).set (4 * z) (u8v (gw (blks iv256 (padded l) (x + y)) z >>> 24).toUInt8)).set (4 * z + 1) (u8v (gw (blks iv256 (padded l) (x + y)) z >>> 16).toUInt8))) rfl rfl rfl sz5 rfl (by simp only [List.length_set, hlo]; omega) rfl hs15 (by first | exact u0 | exact u1 | exact u2 | exact u3 | exact u4 | exact u5)) ?_
    rintro _ w16 hs16
    refine RL.p rfl rfl rfl (PV_indexArr1 (4 * z + 3) rfl Tryz.underlying24 sz5 rfl rfl (by omega) (by omega)) ?_
    refine RL.e0 rfl rfl (EF_storeC (cs := ((((outc (blks iv256 (padded l) (x + y)) z).set (4 * z) (u8v (gw (blks iv256 (padded l) (x + y)) z >>> 24).toUInt8)).set (4 * z + 1) (u8v (gw (blks iv256 (padded l) (x + y)) z >>> 16).toUInt8)).set (4 * z + 2) (u8v (gw (blks iv256 (padded l) (x + y)) z >>> 8).toUInt8))) rfl rfl rfl sz5 rfl (by simp only [List.length_set, hlo]; omega) (outc_set _ hz1 hsl) hs16 (by first | exact u0 | exact u1 | exact u2 | exact u3 | exact u4 | exact u5)) ?_
    rintro _ w17 hs17
    refine RL.done (nxt ?_)
    repeat (first | refine W.seq ?_ | refine W.region ?_)
    refine RL.p rfl rfl rfl (PV_add rfl rfl rfl (by omega)) ?_
    refine RL.p rfl rfl rfl (PV_move rfl rfl) ?_
    refine RL.done (round_end (z + 1) ?_ ?_ ?_)
    · repeat first | exact Sub.nil | refine Sub.cons rfl ?_
    · exact ⟨by omega, hs17⟩
    · first | omega | (dsimp only; omega)
  repeat (first | refine W.seq ?_ | refine W.region ?_)
  refine  W.exit (nxt ?_)
  obtain rfl : z = 8 := by have := of_decide_eq_false h5; omega
  rw [outc_eight _ hsl, ← hsha] at hs13
  repeat (first | refine W.seq ?_ | refine W.region ?_)
  refine RL.s rfl rfl rfl (PV_loadMA rfl ag24 sz24 rfl (by first | exact m0 | exact m1 | exact m2 | exact m3 | exact m4 | exact m5) (by simp [length_bcells, length_sha]) (part_whole (by simp [length_bcells, length_sha]))) hs13 ?_
  refine RL.e0 rfl rfl (EF_storeA (cs := bcells (sha l)) rfl rfl rfl (by rw [length_bcells, length_sha]; exact sz24) rfl (by simp [one1_bcells]) hs13 (by first | exact u0 | exact u1 | exact u2 | exact u3 | exact u4 | exact u5)) ?_
  rintro _ w14 hs14
  refine RL.done (nxt ?_)
  repeat (first | refine W.seq ?_ | refine W.region ?_)
  exact W.ret (ret_cell rfl rfl (ldA ag24 sz24 hs14 (by first | exact m0 | exact m1 | exact m2 | exact m3 | exact m4 | exact m5) (by simp [length_bcells, length_sha])) ⟨_, rfl, rfl, hs14.tail⟩)

end Go.Proofs.YtecbpmgfikgoaaaGreatDoor
end
section
set_option linter.unusedVariables false
set_option linter.unusedSimpArgs false
namespace Go.Proofs.YtecbpmgfikgoaaaGreatDoor
open Go Go.RowKit
section
variable {P : Program} {n : Nat} {E : List (Nat × Value)} {S : World → Prop} {o : Oper} {G w : World} {M M' L : List Chunk} {I J : Imm}

theorem Upd.app {b : Nat} {T : TypeId} {cs cs' : List Value} (h : Upd b T cs cs' M M') : Upd b T cs cs' (L ++ M) (L ++ M') := by
  obtain ⟨l, r, rfl, rfl⟩ := h
  exact ⟨L ++ l, r, by simp, by simp⟩
theorem Del.app {c : Chunk} (h : Del c M M') : Del c (L ++ M) (L ++ M') := by
  obtain ⟨l, r, rfl, rfl⟩ := h
  exact ⟨L ++ l, r, by simp, by simp⟩
theorem mapp {c : Chunk} (h : c ∈ M) : c ∈ L ++ M := List.mem_append_right _ h
theorem Sat.mid {c : Chunk} {R : List Chunk} (h : Sat G (c :: (L ++ R)) I w) : Sat G (L ++ c :: R) I w := h.perm List.perm_middle
theorem Sat.unmid {c : Chunk} {R : List Chunk} (h : Sat G (L ++ c :: R) I w) : Sat G (c :: (L ++ R)) I w := h.perm List.perm_middle.symm
theorem Sat.del {c : Chunk} (h : Sat G M I w) (hd : Del c M M') : Sat G M' I w := by
  obtain ⟨l, r, rfl, rfl⟩ := hd
  exact h.sub (List.Sublist.append_left (List.sublist_cons_self c r) l)

/-- A slice of m elements of sz cells, whose cells are 'cs' in every world that is known so. -/
def SlM (G : World) (M : List Chunk) (I : Imm) (sz : Nat) (v : Value) (m : Nat) (cs : List Value) : Prop :=
  cs.length = m * sz ∧ ∃ A c, v = .slice A m c ∧ m ≤ c ∧ (m = 0 ∨ ∃ b off, A = some ⟨b, off, none⟩ ∧ Mem G M I b off cs)
theorem Mem.mono {bb off : Nat} {cs : List Value} (h : Mem G M I bb off cs) (hM : ∀ w, Sat G M' J w → Sat G M I w) : Mem G M' J bb off cs := fun w hs => h w (hM w hs)
theorem SlM.mono {sz m : Nat} {v : Value} {cs : List Value} (h : SlM G M I sz v m cs) (hM : ∀ w, Sat G M' J w → Sat G M I w) : SlM G M' J sz v m cs := by
  obtain ⟨h1, A, c, h2, h3, h4⟩ := h
  refine ⟨h1, A, c, h2, h3, ?_⟩
  rcases h4 with h4 | ⟨b, off, h4, h5⟩
  · exact .inl h4
  · exact .inr ⟨b, off, h4, h5.mono hM⟩
theorem SlI.toM {sz m : Nat} {v : Value} {cs : List Value} (h : SlI I sz v m cs) : SlM G M I sz v m cs := by
  obtain ⟨h1, A, c, h2, h3, h4⟩ := h
  refine ⟨h1, A, c, h2, h3, ?_⟩
  rcases h4 with h4 | ⟨b, off, d, T, fr, h4, hb, hf, hp⟩
  · exact .inl h4
  · exact .inr ⟨b, off, h4, Mem.of_imm hb (by rw [h1]; exact hf) (by rw [h1]; exact hp)⟩
theorem SlM.shape {sz m : Nat} {v : Value} {cs : List Value} (h : SlM G M I sz v m cs) : ∃ A c, v = .slice A m c ∧ m ≤ c := by
  obtain ⟨h1, A, c, h, hc, h2⟩ := h
  exact ⟨A, c, h, hc⟩
theorem SlM.own {b m c sz : Nat} {cs : List Value} {T : TypeId} (hm : (b, cs, T) ∈ M) (hl : cs.length = m * sz) (hc : m ≤ c) : SlM G M I sz (.slice (some ⟨b, 0, none⟩) m c) m cs :=
  ⟨hl, _, c, rfl, hc, .inr ⟨b, 0, rfl, Mem.of_own hm (by omega) (part_whole rfl)⟩⟩
theorem OwnS.toM {e sz m : Nat} {v : Value} {cs : List Value} {L : List Chunk} (h : OwnS e sz v cs L) (hl : cs.length = m * sz) (hz : 0 < sz) : SlM G (L ++ M) I sz v m cs := by
  rcases h with ⟨rfl, rfl, rfl⟩ | ⟨b, len, cap, zs, rfl, hlen, rfl, hcap, hle⟩
  · have : m = 0 := by
      rcases Nat.eq_zero_or_pos m with h | h
      · exact h
      · have := Nat.mul_pos h hz
        simp at hl
        omega
    subst this
    exact ⟨by simp, none, 0, rfl, Nat.le_refl _, .inl rfl⟩
  · have hm : len = m := Nat.eq_of_mul_eq_mul_right hz (hlen.symm.trans hl)
    subst hm
    refine ⟨hl, _, cap, rfl, hle, .inr ⟨b, 0, rfl, Mem.of_own (d := cs ++ zs) (T := e) (by simp) (by simp) (by simp [part])⟩⟩
theorem SlM.rd {sz m : Nat} {v : Value} {cs : List Value} (h : SlM G M I sz v m cs) (hs : Sat G M I w) : RdW w sz v m cs := by
  obtain ⟨h1, A, c, rfl, hc, h2⟩ := h
  refine ⟨h1, A, c, rfl, hc, ?_⟩
  rcases h2 with h2 | ⟨b, off, rfl, hb⟩
  · exact .inl h2
  · obtain ⟨d, T, fr, hd, hf, hp⟩ := hb w hs
    exact .inr ⟨b, off, d, T, fr, rfl, hd, by rw [← h1]; exact hf, by rw [← h1]; exact hp⟩
theorem SlM.elem {sz m : Nat} {v : Value} {cs : List Value} (h : SlM G M I sz v m cs) (hm : 0 < m) : ∃ b off c, v = .slice (some ⟨b, off, none⟩) m c ∧ m ≤ c ∧ Mem G M I b off cs := by
  obtain ⟨h1, A, c, rfl, hc, h2⟩ := h
  rcases h2 with h2 | ⟨b, off, rfl, hb⟩
  · omega
  · exact ⟨b, off, c, rfl, hc, hb⟩
theorem SlM.nil (sz : Nat) : SlM G M I sz (.slice none 0 0) 0 [] := (SlI.nil (I := I) sz).toM
theorem OwnS.cell {e sz : Nat} {v : Value} {cs : List Value} {L : List Chunk} (h : OwnS e sz v cs L) : v.oneCell' = true := by
  rcases h with ⟨rfl, _⟩ | ⟨b, len, cap, zs, rfl, _⟩ <;> rfl
theorem SlI.cell {sz m : Nat} {v : Value} {cs : List Value} (h : SlI I sz v m cs) : v.oneCell' = true := by
  obtain ⟨A, c, rfl, _⟩ := h.shape
  rfl
theorem SlM.cell {sz m : Nat} {v : Value} {cs : List Value} (h : SlM G M I sz v m cs) : v.oneCell' = true := by
  obtain ⟨A, c, rfl, _⟩ := h.shape
  rfl
theorem OwnS.shape {e sz m : Nat} {v : Value} {cs : List Value} {L : List Chunk} (h : OwnS e sz v cs L) (hl : cs.length = m * sz) (hz : 0 < sz) : ∃ A c, v = .slice A m c ∧ m ≤ c := (OwnS.toM (G := default) (M := []) (I := fun _ => none) h hl hz).shape

/-- A load of several cells from memory that is known. -/
theorem PV_loadMemA {T : TypeId} {x : Operand} {bb off j m : Nat} {cs r : List Value} {M0 : List Chunk} (ho : o.op = .load T x) (hT : ∀ w, (isAgg T).run P w = .ok true w) (hsz : (P.info? T).map (·.size) = some m) (hx : ev E x = some (ptr bb (off + j))) (hsub : ∀ w, S w → Sat G M0 I w) (hm : Mem G M0 I bb off cs) (hf : j + m ≤ cs.length) (hc : part cs j m = r) : PV P n o E S (aggL r) := by
  intro a ha w hs
  obtain ⟨d, TT, fr, hb, hfd, hp⟩ := hm w (hsub w hs)
  have := run_loadA (P := P) hT hsz hb (off := off + j) (r := r) (by omega) (by
    rw [← hc, ← hp]
    simp only [part, List.drop_take, List.take_take, List.drop_drop]
    congr 1
    omega)
  simp [execOp, ho, ha.ev hx, ptr, Instr.loadAt, Instr.sureAddr, this]

/-! ### Slices beside nil -/
theorem run_equalIn_nils {T e : TypeId} (ht : P.underlying T = some (.slice e)) (d : Nat) (a : Option Addr) (l c : Nat) (w : World) : (Op.equalIn (d + 1) T (.slice a l c) (.slice none 0 0)).run P w = .ok a.isNone w := by
  cases a <;> simp [Op.equalIn, run_underlying ht]
theorem PV_eqnils {T T' e : TypeId} {x y : Operand} {a : Option Addr} {l c : Nat} (ho : o.op = .binOp .eql T x y T') (ht : P.underlying T = some (.slice e)) (hx : ev E x = some (.slice a l c)) (hy : ev E y = some (.slice none 0 0)) : PV P n o E S (.bool a.isNone) := .of fun ac ha w => by
  have h : (Op.equal T (.slice a l c) (.slice none 0 0)).run P w = .ok a.isNone w := run_equalIn_nils ht 9999 a l c w
  have h2 : (binOp .eql T (.slice a l c) (.slice none 0 0)).run P w = .ok (.bool a.isNone) w := by
    unfold binOp
    simp [h]
  simp [execOp, ho, ha.ev hx, ha.ev hy, eqGuard, h2]
theorem EF_bs0 {TS e bytes : Nat} {z : List Value} (ho : o.op = .buildSlice TS 0 #[]) (he : El P TS e z bytes) (hs : Sat G M I w) : EF P n o E w (fun r w' => ∃ b, r = .slice (some ⟨b, 0, none⟩) 0 0 ∧ Sat G ((b, [], e) :: M) I w') := by
  intro a ha next Q h
  obtain ⟨i, zv, hi, hz, hzl, hsz, hby⟩ := he.parts
  have hr : (Instr.buildSlice TS 0 #[]).run P w = .ok (.slice (some ⟨w.heap.size, 0, none⟩) 0 0) (w.alloc (.cells #[] e)) := by
    simp [Instr.buildSlice, run_underlying he.sl, sizeOf, typeInfo, hi, newRow, Instr.fill]
    rw [show Array.range 0 = #[] by simp [Array.range], Array.map_empty]
  simp only [Oper.wp, execOp, ho, Array.map_empty, List.map_toArray, List.map_nil, hr, Oper.upon, Sem.run_bind, Sem.run_pure, Result.andThen_ok]
  exact h _ _ ⟨w.heap.size, rfl, hs.alloc [] e⟩

/-! ### The bytes of a text -/
def sbytes (s : ByteArray) : List UInt8 := s.data.toList
theorem length_sbytes (s : ByteArray) : (sbytes s).length = s.size := by simp [sbytes]
theorem EF_bytes {T T' e : TypeId} {x : Operand} {s : ByteArray} {u : TypeDesc} (ho : o.op = .convert T T' x) (hT : P.underlying T = some u) (hT' : P.underlying T' = some (.slice e)) (he : P.underlying e = some (.int .u8)) (hx : ev E x = some (.string s)) (hs : Sat G M I w) :
    EF P n o E w (fun r w' => ∃ J, Le I J ∧ SlB J r (sbytes s) ∧ Sat G M J w') := by
  intro a ha next Q h
  have hr := Lib.run_convert_string_bytes (P := P) w T T' e s hT hT' he
  simp only [Oper.wp, execOp, ho, ha.ev hx, hr, Oper.upon, Sem.run_bind, Sem.run_pure, Result.andThen_ok]
  have hlt : ∀ b cs T, (b, cs, T) ∈ M → b < w.heap.size := fun b cs T hm => hs.lt hm
  have hltI : ∀ b o, I b = some o → b < w.heap.size := fun b o hm => hs.ltI hm
  refine h _ _ ⟨fun b => if b = w.heap.size then some (.cells (Lib.bytesCells w e s) e ((Lib.bytesCells w e s).size, (Lib.bytesCells w e s).size + 1)) else I b, ?_, ?_, ?_⟩
  · intro b o hb
    have := hltI b o hb
    simp [show ¬ b = w.heap.size by omega, hb]
  · have hsz : s.size ≤ grownCap w s.size 0 e := by simp [grownCap, Question.cut]
    have hl : (sbytes s).length = s.size := length_sbytes s
    refine ⟨by simp [length_bcells], some ⟨w.heap.size, 0, none⟩, grownCap w s.size 0 e, by rw [hl], by omega, ?_⟩
    refine .inr ⟨w.heap.size, 0, Lib.bytesCells w e s, e, ((Lib.bytesCells w e s).size, (Lib.bytesCells w e s).size + 1), rfl, by simp, ?_, ?_⟩
    · simp [Lib.bytesCells, hl]
    · have h1 : ((s.data.map fun b => Value.int .u8 b.toNat)).toList = bcells (sbytes s) := by simp [bcells, sbytes, u8v]
      simp only [Lib.bytesCells, Array.toList_append, h1, part, List.drop_zero, Nat.mul_one]
      rw [List.take_append_of_le_length (by simp [length_bcells]), List.take_of_length_le (by simp [length_bcells])]
  · have hne : ∀ b, b < w.heap.size → (Lib.bytesWorld w e s).heap[b]? = w.heap[b]? := fun b hb => Lib.bytesWorld_at_old w e s b hb
    refine ⟨hs.tape, hs.os, hs.output, fun b cs T hm => ?_, hs.nodup, fun b o hb => ?_, fun b cs T hm => ?_⟩
    · rw [hne b (hlt b cs T hm)]; exact hs.own b cs T hm
    · by_cases hbb : b = w.heap.size
      · subst hbb
        simp only [if_true, Option.some.injEq] at hb
        rw [← hb]
        exact Lib.bytesWorld_at_new w e s
      · simp only [hbb, if_false] at hb
        rw [hne b (hltI b o hb)]; exact hs.imm b o hb
    · have := hlt b cs T hm
      simp [show ¬ b = w.heap.size by omega, hs.apart b cs T hm]

/-! ### Bits of bytes -/
theorem PV_u8_or {T T' : TypeId} {x y : Operand} {p q : UInt8} (ho : o.op = .binOp .or T x y T') (hx : ev E x = some (u8v p)) (hy : ev E y = some (u8v q)) : PV P n o E S (u8v (p ||| q)) := .of fun a ha w => by
  have h1 := ha.ev hx
  have h2 := ha.ev hy
  have hv : (Value.int .u8 (IntKind.u8.wrap ((BitVec.ofInt 8 (p.toNat : Int) ||| BitVec.ofInt 8 (q.toNat : Int)).toNat : Int))) = u8v (p ||| q) := by
    rw [IntKind.wrap_u8]
    simp [u8v]
    have : p.toNat ||| q.toNat < 256 := Nat.or_lt_two_pow (n := 8) p.toNat_lt q.toNat_lt
    omega
  simp only [execOp, ho, h1, h2, u8v, eqGuard, binOp, Op.intBits, Sem.run_bind, Sem.run_pure, Result.andThen_ok]
  have hb : IntKind.u8.bits = 8 := rfl
  exact congrArg (fun v => (Result.ok (Next.value v) w : Result Next)) hv

/-! ### A Writer -/
/-- A Writer's variable, and what was laid in it. -/
def Wr (G : World) (M : List Chunk) (I : Imm) (wb : Nat) (TT : TypeId) (l : List UInt8) (w : World) : Prop := ∃ sl L, OwnS 5 1 sl (bcells l) L ∧ Sat G (L ++ (wb, [sl], TT) :: M) I w
theorem Wr.sat {wb : Nat} {TT : TypeId} {l : List UInt8} (h : Wr G M I wb TT l w) : Sat G M I w := by
  obtain ⟨sl, L, _, hs⟩ := h
  exact hs.drop.tail
theorem Wr.le {wb : Nat} {TT : TypeId} {l : List UInt8} (h : Wr G M J wb TT l w) (hl : Le I J) : Wr G M I wb TT l w := by
  obtain ⟨sl, L, ho, hs⟩ := h
  exact ⟨sl, L, ho, hs.le hl⟩
theorem Wr.del {wb : Nat} {TT : TypeId} {l : List UInt8} {c : Chunk} (h : Wr G M I wb TT l w) (hd : Del c M M') : Wr G M' I wb TT l w := by
  obtain ⟨sl, L, ho, hs⟩ := h
  exact ⟨sl, L, ho, hs.del hd.there.app⟩
theorem Wr.perm {wb : Nat} {TT : TypeId} {l : List UInt8} (h : Wr G M I wb TT l w) (hp : M'.Perm M) : Wr G M' I wb TT l w := by
  obtain ⟨sl, L, ho, hs⟩ := h
  exact ⟨sl, L, ho, hs.perm ((hp.cons _).append_left _)⟩
theorem Wr.tail {wb : Nat} {TT : TypeId} {l : List UInt8} {c : Chunk} (h : Wr G (c :: M) I wb TT l w) : Wr G M I wb TT l w := h.del x0
/-- An allocation beside a Writer. -/
theorem Wr.in {wb : Nat} {TT : TypeId} {l : List UInt8} {sl : Value} {L : List Chunk} {c : Chunk} (ho : OwnS 5 1 sl (bcells l) L) (hs : Sat G (c :: (L ++ (wb, [sl], TT) :: M)) I w) : Wr G (c :: M) I wb TT l w :=
  ⟨sl, L, ho, hs.mid.perm ((List.Perm.swap _ _ _).append_left _)⟩

/-- A number as bytes. -/
def numB (u : Nat) : List UInt8 := if h : u < 128 then [UInt8.ofNat u] else (UInt8.ofNat u ||| 0x80) :: numB (u / 128)
theorem numB_lt {u : Nat} (h : u < 128) : numB u = [UInt8.ofNat u] := by rw [numB]; simp [h]
theorem numB_ge {u : Nat} (h : ¬ u < 128) : numB u = (UInt8.ofNat u ||| 0x80) :: numB (u / 128) := by rw [numB]; simp [h]
theorem length_numB (k : Nat) : ∀ u, u < 128 ^ k → (numB u).length ≤ max k 1 := by
  induction k with
  | zero => intro u hu; rw [numB_lt (by omega)]; simp
  | succ k ih =>
    intro u hu
    by_cases h : u < 128
    · rw [numB_lt h]; simp
    · rw [numB_ge h]
      have hk : k ≠ 0 := by rintro rfl; omega
      have := ih (u / 128) (by rw [Nat.div_lt_iff_lt_mul (by decide)]; rwa [Nat.pow_succ] at hu)
      simp
      omega
theorem numB_pos (u : Nat) : 0 < (numB u).length := by
  by_cases h : u < 128
  · rw [numB_lt h]; simp
  · rw [numB_ge h]; simp
def clamp (x : Int) : Nat := (max 0 (min x 4611686018427387904)).toNat
def nums (l : List Int) : List UInt8 := l.flatMap fun x => numB (clamp x)
def icells (l : List Int) : List Value := l.map fun x => .int .i64 x
theorem nums_take {l : List Int} {i : Nat} {x : Int} (h : l[i]? = some x) : nums (l.take (i + 1)) = nums (l.take i) ++ numB (clamp x) := by
  have hi : i < l.length := (List.getElem?_eq_some_iff.1 h).1
  rw [nums, List.take_succ_eq_append_getElem hi, List.flatMap_append, ← nums]
  have : l[i] = x := (List.getElem?_eq_some_iff.1 h).2
  simp [this]
theorem length_nums (l : List Int) : l.length ≤ (nums l).length := by
  induction l with
  | nil => simp [nums]
  | cons x l ih =>
    have := numB_pos (clamp x)
    simp [nums] at ih ⊢
    omega
end
end Go.Proofs.YtecbpmgfikgoaaaGreatDoor
end
section
set_option linter.unusedVariables false
set_option linter.unusedSimpArgs false
namespace Go.Proofs.YtecbpmgfikgoaaaGreatDoor
open Go Go.RowKit
section
variable {P : Program} {n : Nat} {k : Kont} {E : List (Nat × Value)} {w : World} {S : World → Prop} {o oj : Oper} {ops : Array Oper} {rest : List Oper} {j t d : Nat} {p b c : Bool} {v : Value} {post : Value → World → Prop}
theorem RL.split (t : Nat) (hl : look E t = some (.bool b)) (h1 : b = true → RL P n ops k rest E w) (h0 : b = false → RL P n ops k rest E w) : RL P n ops k rest E w := by
  cases b with
  | true => exact h1 rfl
  | false => exact h0 rfl
theorem RL.gp (hg : o.guard = some (j, p)) (hj : ops[j]? = some oj) (ht : oj.dst = some t) (hl : look E t = some (.bool b)) (hb : b = c) (hc : (c == p) = true) (hd : o.dst = some d) (hlt : Nat.blt d n = true) (hv : PV P n o E (fun _ => True) v)
    (h : RL P n ops k rest ((d, v) :: E) w) : RL P n ops k (o :: rest) E w :=
  RL.pure (S := fun _ => True) (.of hg hj ht hl (by rw [hb]; exact hc)) (by rw [hd]; exact hlt) hv trivial (by rw [hd]; exact h)
theorem RL.gs (hg : o.guard = some (j, p)) (hj : ops[j]? = some oj) (ht : oj.dst = some t) (hl : look E t = some (.bool b)) (hb : b = c) (hc : (c == p) = true) (hd : o.dst = some d) (hlt : Nat.blt d n = true) (hv : PV P n o E S v) (hS : S w)
    (h : RL P n ops k rest ((d, v) :: E) w) : RL P n ops k (o :: rest) E w :=
  RL.pure (.of hg hj ht hl (by rw [hb]; exact hc)) (by rw [hd]; exact hlt) hv hS (by rw [hd]; exact h)
theorem RL.ge (hg : o.guard = some (j, p)) (hj : ops[j]? = some oj) (ht : oj.dst = some t) (hl : look E t = some (.bool b)) (hb : b = c) (hc : (c == p) = true) (hd : o.dst = some d) (hlt : Nat.blt d n = true) (he : EF P n o E w post)
    (h : ∀ v w', post v w' → RL P n ops k rest ((d, v) :: E) w') : RL P n ops k (o :: rest) E w :=
  RL.eff (.of hg hj ht hl (by rw [hb]; exact hc)) (by rw [hd]; exact hlt) he (by rw [hd]; exact h)
theorem RL.ge0 (hg : o.guard = some (j, p)) (hj : ops[j]? = some oj) (ht : oj.dst = some t) (hl : look E t = some (.bool b)) (hb : b = c) (hc : (c == p) = true) (hd : o.dst = none) (he : EF P n o E w post)
    (h : ∀ v w', post v w' → RL P n ops k rest E w') : RL P n ops k (o :: rest) E w :=
  RL.eff (.of hg hj ht hl (by rw [hb]; exact hc)) (by rw [hd]; rfl) he (by rw [hd]; exact h)
theorem RL.gk (hg : o.guard = some (j, p)) (hj : ops[j]? = some oj) (ht : oj.dst = some t) (hl : look E t = some (.bool b)) (hb : b = c) (hc : (c == p) = false) (hd : o.dst = some d) (hlt : Nat.blt d n = true)
    (h : RL P n ops k rest ((d, undef) :: E) w) : RL P n ops k (o :: rest) E w :=
  RL.skip (.of hg hj ht hl (by rw [hb]; exact hc)) (by rw [hd]; exact hlt) (by rw [hd]; exact h)
theorem RL.gk0 (hg : o.guard = some (j, p)) (hj : ops[j]? = some oj) (ht : oj.dst = some t) (hl : look E t = some (.bool b)) (hb : b = c) (hc : (c == p) = false) (hd : o.dst = none)
    (h : RL P n ops k rest E w) : RL P n ops k (o :: rest) E w :=
  RL.skip (.of hg hj ht hl (by rw [hb]; exact hc)) (by rw [hd]; rfl) (by rw [hd]; exact h)
theorem want_un (hg : o.guard = some (j, p)) (hj : ops[j]? = some oj) (ht : oj.dst = some t) (hl : look E t = some undef) : Want n ops o E false := fun a ha => by
  have h := ha.at_ t _ hl
  have hy : yielded ops a.tmps j = none := by
    simp only [yielded, hj, ht, Option.bind_some]
    rw [Array.getD_eq_getD_getElem?] at h
    cases hc : a.tmps[t]? with
    | none => rfl
    | some v => rw [hc] at h; simp only [Option.getD_some] at h; rw [h]; rfl
  simp only [Region.wanted, hg, hy]
  rfl
theorem RL.gu (hg : o.guard = some (j, p)) (hj : ops[j]? = some oj) (ht : oj.dst = some t) (hl : look E t = some undef) (hd : o.dst = some d) (hlt : Nat.blt d n = true)
    (h : RL P n ops k rest ((d, undef) :: E) w) : RL P n ops k (o :: rest) E w :=
  RL.skip (want_un hg hj ht hl) (by rw [hd]; exact hlt) (by rw [hd]; exact h)
variable {need : Nat → Bool} {i : Nat} {lst : List (Nat × Bool)} {T : World → Prop}
theorem TW.split (t : Nat) (hl : look E t = some (.bool b)) (h1 : b = true → TW P n ops k S need lst E w) (h0 : b = false → TW P n ops k S need lst E w) : TW P n ops k S need lst E w := by
  cases b with
  | true => exact h1 rfl
  | false => exact h0 rfl
theorem TW.gp (hi : ops[i]? = some o) (hg : o.guard = some (j, p)) (hj : ops[j]? = some oj) (ht : oj.dst = some t) (hl : look E t = some (.bool b)) (hb : b = c) (hc : (c == p) = true) (hd : o.dst = some d) (hlt : Nat.blt d n = true) (hv : PV P n o E (fun _ => True) v) (hS : S w) (h : TW P n ops k S need lst ((d, v) :: E) w) : TW P n ops k S need ((i, true) :: lst) E w :=
  TW.pure hi (.of hg hj ht hl (by rw [hb]; exact hc)) (by rw [hd]; exact hlt) (fun a ha w _ => hv a ha w trivial) hS (by rw [hd]; exact h)
theorem TW.gs (hi : ops[i]? = some o) (hg : o.guard = some (j, p)) (hj : ops[j]? = some oj) (ht : oj.dst = some t) (hl : look E t = some (.bool b)) (hb : b = c) (hc : (c == p) = true) (hd : o.dst = some d) (hlt : Nat.blt d n = true) (hv : PV P n o E S v) (hS : S w) (h : TW P n ops k S need lst ((d, v) :: E) w) : TW P n ops k S need ((i, true) :: lst) E w :=
  TW.pure hi (.of hg hj ht hl (by rw [hb]; exact hc)) (by rw [hd]; exact hlt) hv hS (by rw [hd]; exact h)
theorem TW.gq (hi : ops[i]? = some o) (hg : o.guard = some (j, p)) (hj : ops[j]? = some oj) (ht : oj.dst = some t) (hl : look E t = some (.bool b)) (hb : b = c) (hc : (c == p) = true) (hd : o.dst = some d) (hlt : Nat.blt d n = true) (hv : PV P n o E T v) (hT : T w) (hS : need i = true → S w) (h : TW P n ops k S need lst ((d, v) :: E) w) : TW P n ops k S need ((i, false) :: lst) E w :=
  TW.eff (post := fun r w' => r = v ∧ w' = w) hi (.of hg hj ht hl (by rw [hb]; exact hc)) (by rw [hd]; exact hlt) (EF_of_PV hv hT) (by rintro _ _ ⟨rfl, rfl⟩; exact ⟨hS, by rw [hd]; exact h⟩)
theorem TW.ge (hi : ops[i]? = some o) (hg : o.guard = some (j, p)) (hj : ops[j]? = some oj) (ht : oj.dst = some t) (hl : look E t = some (.bool b)) (hb : b = c) (hc : (c == p) = true) (hd : o.dst = some d) (hlt : Nat.blt d n = true) (he : EF P n o E w post) (h : ∀ v w', post v w' → S w' ∧ TW P n ops k S need lst ((d, v) :: E) w') : TW P n ops k S need ((i, false) :: lst) E w :=
  TW.eff hi (.of hg hj ht hl (by rw [hb]; exact hc)) (by rw [hd]; exact hlt) he (fun v w' hp => ⟨fun _ => (h v w' hp).1, by rw [hd]; exact (h v w' hp).2⟩)
theorem TW.gen (hi : ops[i]? = some o) (hg : o.guard = some (j, p)) (hj : ops[j]? = some oj) (ht : oj.dst = some t) (hl : look E t = some (.bool b)) (hb : b = c) (hc : (c == p) = true) (hd : o.dst = some d) (hlt : Nat.blt d n = true) (hn : need i = false) (he : EF P n o E w post) (h : ∀ v w', post v w' → TW P n ops k S need lst ((d, v) :: E) w') : TW P n ops k S need ((i, false) :: lst) E w :=
  TW.eff hi (.of hg hj ht hl (by rw [hb]; exact hc)) (by rw [hd]; exact hlt) he (fun v w' hp => ⟨fun h => absurd h (by rw [hn]; simp), by rw [hd]; exact h v w' hp⟩)
theorem TW.gk (hi : ops[i]? = some o) (hg : o.guard = some (j, p)) (hj : ops[j]? = some oj) (ht : oj.dst = some t) (hl : look E t = some (.bool b)) (hb : b = c) (hc : (c == p) = false) (hd : o.dst = some d) (hlt : Nat.blt d n = true) (hS : S w) (h : TW P n ops k S need lst ((d, undef) :: E) w) : TW P n ops k S need ((i, true) :: lst) E w :=
  TW.skip hi (.of hg hj ht hl (by rw [hb]; exact hc)) (by rw [hd]; exact hlt) hS (by rw [hd]; exact h)
theorem TW.gkf (hi : ops[i]? = some o) (hg : o.guard = some (j, p)) (hj : ops[j]? = some oj) (ht : oj.dst = some t) (hl : look E t = some (.bool b)) (hb : b = c) (hc : (c == p) = false) (hd : o.dst = some d) (hlt : Nat.blt d n = true) (hS : S w) (h : TW P n ops k S need lst ((d, undef) :: E) w) : TW P n ops k S need ((i, false) :: lst) E w :=
  TW.effSkip hi (.of hg hj ht hl (by rw [hb]; exact hc)) (by rw [hd]; exact hlt) (fun _ => hS) (by rw [hd]; exact h)
theorem TW.gu (hi : ops[i]? = some o) (hg : o.guard = some (j, p)) (hj : ops[j]? = some oj) (ht : oj.dst = some t) (hl : look E t = some undef) (hd : o.dst = some d) (hlt : Nat.blt d n = true) (hS : S w) (h : TW P n ops k S need lst ((d, undef) :: E) w) : TW P n ops k S need ((i, true) :: lst) E w :=
  TW.skip hi (want_un hg hj ht hl) (by rw [hd]; exact hlt) hS (by rw [hd]; exact h)
theorem TW.guf (hi : ops[i]? = some o) (hg : o.guard = some (j, p)) (hj : ops[j]? = some oj) (ht : oj.dst = some t) (hl : look E t = some undef) (hd : o.dst = some d) (hlt : Nat.blt d n = true) (hS : S w) (h : TW P n ops k S need lst ((d, undef) :: E) w) : TW P n ops k S need ((i, false) :: lst) E w :=
  TW.effSkip hi (want_un hg hj ht hl) (by rw [hd]; exact hlt) (fun _ => hS) (by rw [hd]; exact h)
theorem PV_indexA {T e : TypeId} {x y : Operand} {cs r : List Value} {l i sz : Nat} {q : IntKind} {z : Int} (ho : o.op = .index T x y) (ht : P.underlying T = some (.array l e)) (hs : (P.info? e).map (·.size) = some sz) (ha' : ∀ w, (isAgg e).run P w = .ok true w)
    (hx : ev E x = some (aggL cs)) (hy : ev E y = some (.int q z)) (hz : z = (i : Int)) (hl : i < l) (hv : part cs (i * sz) sz = r) : PV P n o E S (aggL r) := .of fun ac ha w => by
  subst hz
  cases hi : P.info? e with
  | none => simp [hi] at hs
  | some j =>
    have hj : j.size = sz := by simpa [hi] using hs
    have h1 : (0 : Int) ≤ (i : Int) ∧ (i : Int) < (l : Int) := by omega
    have h2 : List.take sz (List.drop (i * sz) cs) = r := hv
    simp [execOp, ho, ha.ev hx, ha.ev hy, Instr.index, run_underlying ht, asIntOf, h1, aggL, Go.part, ha', sizeOf, typeInfo, hi, hj, h2, hl]
theorem PV_pickT {x y z : Operand} (ho : o.op = .pick x y z) (hc : ev E x = some (.bool b)) (hb : b = true) (hv : ev E y = some v) : PV P n o E S v := PV_pick ho hc (by rw [hb]; exact hv)
theorem PV_pickF {x y z : Operand} (ho : o.op = .pick x y z) (hc : ev E x = some (.bool b)) (hb : b = false) (hv : ev E z = some v) : PV P n o E S v := PV_pick ho hc (by rw [hb]; exact hv)
end
end Go.Proofs.YtecbpmgfikgoaaaGreatDoor
end
section
set_option linter.unusedVariables false
set_option linter.unusedSimpArgs false
set_option maxRecDepth 8000
set_option maxHeartbeats 4000000
namespace Go.Proofs.YtecbpmgfikgoaaaGreatDoor
open Go Go.RowKit
variable {G w : World} {M : List Chunk} {I : Imm}

def isNumB (x : Int) : Bool := decide (0 ≤ x) && decide (x ≤ 1073741824)
def isVersionB (x : Int) : Bool := decide (1 ≤ x) && decide (x ≤ 1073741824)

def rowB (l : List UInt8) : List UInt8 := nums [(l.length : Int)] ++ l

theorem C56 {wb : Nat} {TT : TypeId} {v : Value} {ns : List Int} {l : List UInt8} (h0 : Wr G M I wb TT l w) (hv : SlM G M I 1 v ns.length (icells ns)) (hb : (l ++ nums ns).length ≤ 2 ^ 40) : Calls Tryz.prog 56 #[ptr wb 0, v] w (Ret fun r w' => r = .tuple #[] ∧ Wr G M I wb TT (l ++ nums ns) w') := by
  have hs := h0.sat
  have hnl : ns.length ≤ 2 ^ 40 := by have := length_nums ns; simp at hb; omega
  obtain ⟨A, c, rfl, hc⟩ := hv.shape
  refine enter2 Tryz.func56 rfl Tryz.ntmps56 rfl ?_
  repeat (first | refine W.seq ?_ | refine W.region ?_)
  refine RL.p rfl rfl rfl (PV_move rfl rfl) ?_
  refine RL.p rfl rfl rfl (PV_eqnil rfl Tryz.underlying182 rfl rfl) ?_
  refine RL.done (nxt ?_)
  repeat (first | refine W.seq ?_ | refine W.region ?_)
  refine W.cond rfl (fun h1 => ?_) (fun h1 => ?_)
  · cases h1
  refine W.skip (nxt ?_)
  repeat (first | refine W.seq ?_ | refine W.region ?_)
  refine RL.p rfl rfl rfl (PV_move rfl rfl) ?_
  refine RL.p rfl rfl rfl (PV_len rfl Tryz.underlying178 rfl) ?_
  refine RL.p rfl rfl rfl (PV_move rfl rfl) ?_
  refine RL.done (nxt ?_)
  repeat (first | refine W.seq ?_ | refine W.region ?_)
  refine W.block ?_
  repeat (first | refine W.seq ?_ | refine W.region ?_)
  refine W.loop (F := fun i : Nat => [(11, .int .i64 (i : Int)), (10, .int .i64 (ns.length : Int)), (9, .slice A ns.length c), (0, ptr wb 0)]) (J := fun i w => i ≤ ns.length ∧ Wr G M I wb TT (l ++ nums (ns.take i)) w) (m := fun i => ns.length - i) 0 (by repeat first | exact Sub.nil | refine Sub.cons rfl ?_) ⟨by omega, by simpa [nums] using h0⟩ ?_
  rintro i w1 ⟨hi, hs1⟩
  repeat (first | refine W.seq ?_ | refine W.region ?_)
  refine RL.p rfl rfl rfl (PV_lss rfl rfl rfl) ?_
  refine RL.done (nxt ?_)
  repeat (first | refine W.seq ?_ | refine W.region ?_)
  refine W.cond rfl (fun h2 => ?_) (fun h2 => ?_)
  ·
    have hi1 : i < ns.length := by have := of_decide_eq_true h2; omega
    obtain ⟨bb, off, c', he, _, hmem⟩ := hv.elem (by omega)
    obtain ⟨rfl, rfl⟩ : A = some ⟨bb, off, none⟩ ∧ c = c' := by simpa using he
    obtain ⟨x, hx⟩ : ∃ x, ns[i]? = some x := ⟨_, List.getElem?_eq_getElem hi1⟩
    have hxc : (icells ns)[i]? = some (.int .i64 x) := by simp [icells, hx]
    have hcl : clamp x < 2 ^ 63 := by unfold clamp; omega
    have hX : l ++ nums (ns.take i) ++ numB (clamp x) = l ++ nums (ns.take (i + 1)) := by rw [nums_take hx, List.append_assoc]
    have hXl : (l ++ nums (ns.take (i + 1))).length ≤ 2 ^ 40 := by
      refine Nat.le_trans ?_ hb
      have h9 : nums ns = nums (ns.take (i + 1)) ++ nums (ns.drop (i + 1)) := by rw [nums, nums, nums, ← List.flatMap_append, List.take_append_drop]
      rw [h9]
      simp only [List.length_append]
      omega
    refine  W.skip (nxt ?_)
    repeat (first | refine W.seq ?_ | refine W.region ?_)
    refine W.block ?_
    repeat (first | refine W.seq ?_ | refine W.region ?_)
    refine RL.p rfl rfl rfl (PV_indexAddr1 i rfl Tryz.underlying178 sz3 rfl rfl rfl (by omega)) ?_
    refine RL.s rfl rfl rfl (PV_loadMem1 rfl ag3 rfl (fun _ h => h.sat) hmem hxc) hs1 ?_
    refine RL.p rfl rfl rfl (PV_assign rfl rfl) ?_
    refine RL.done (nxt ?_)
    repeat (first | refine W.seq ?_ | refine W.region ?_)
    refine RL.p rfl rfl rfl (PV_move rfl rfl) ?_
    refine RL.p rfl rfl rfl (PV_min rfl rfl rfl) ?_
    refine RL.p rfl rfl rfl (PV_max rfl rfl rfl) ?_
    refine RL.p rfl rfl rfl (PV_conv_i64_u64 (m := clamp x) rfl Tryz.underlying3 Tryz.underlying161 rfl (by unfold clamp; split <;> split <;> omega) (by omega)) ?_
    refine RL.p rfl rfl rfl (PV_assign rfl rfl) ?_
    refine RL.done (nxt ?_)
    repeat (first | refine W.seq ?_ | refine W.region ?_)
    refine W.block ?_
    repeat (first | refine W.seq ?_ | refine W.region ?_)
    refine W.loop (F := fun z : Nat × List UInt8 => [(6, .int .u64 (z.1 : Int)), (11, .int .i64 (i : Int)), (10, .int .i64 (ns.length : Int)), (9, .slice (some ⟨bb, off, none⟩) ns.length c), (0, ptr wb 0)]) (J := fun z w => z.1 < 2 ^ 63 ∧ z.2 ++ numB z.1 = l ++ nums (ns.take (i + 1)) ∧ Wr G M I wb TT z.2 w) (m := fun z => z.1) (clamp x, l ++ nums (ns.take i)) (by repeat first | exact Sub.nil | refine Sub.cons rfl ?_) ⟨hcl, hX, hs1⟩ ?_
    rintro ⟨u, q⟩ w2 ⟨hu, hq, hs2⟩
    repeat (first | refine W.seq ?_ | refine W.region ?_)
    refine RL.p rfl rfl rfl (PV_move rfl rfl) ?_
    refine RL.p rfl rfl rfl (PV_geq rfl rfl rfl) ?_
    refine RL.done (nxt ?_)
    repeat (first | refine W.seq ?_ | refine W.region ?_)
    refine W.cond rfl (fun h3 => ?_) (fun h3 => ?_)
    ·
      have hu1 : ¬ u < 128 := by have := of_decide_eq_true h3; omega
      obtain ⟨sl, L, ho, hs2'⟩ := hs2
      rw [numB_ge hu1] at hq
      have hql : q.length + 1 ≤ 2 ^ 40 := by have := congrArg List.length hq; simp at this; have := numB_pos (u / 128); simp at hXl; omega
      refine  W.skip (nxt ?_)
      repeat (first | refine W.seq ?_ | refine W.region ?_)
      refine W.block ?_
      repeat (first | refine W.seq ?_ | refine W.region ?_)
      refine RL.p rfl rfl rfl (PV_move rfl rfl) ?_
      refine RL.p rfl rfl rfl (PV_move rfl rfl) ?_
      refine RL.p rfl rfl rfl (PV_nilCheckP rfl rfl) ?_
      refine RL.p rfl rfl rfl (by first | exact PV_fieldAddr0 rfl rfl fa123_0 | exact PV_fieldAddr rfl rfl fa123_0) ?_
      refine RL.s rfl rfl rfl (PV_loadM1 rfl ag60 rfl (mapp m0) rfl) hs2' ?_
      refine RL.p rfl rfl rfl (PV_move rfl rfl) ?_
      refine RL.p rfl rfl rfl (PV_conv_u64_u8 rfl Tryz.underlying161 Tryz.underlying5 rfl rfl) ?_
      refine RL.p rfl rfl rfl (PV_u8_or (q := 0x80) rfl rfl rfl) ?_
      refine RL.e rfl rfl rfl (EF_bs1c rfl el60 rfl rfl hs2') ?_
      rintro _ w3 ⟨b31, rfl, hs3⟩
      refine RL.e rfl rfl rfl (EF_append (l := q.length) rfl el60 rfl rfl ho (by rw [length_bcells]; exact (Nat.mul_one _).symm) (rdW hs3 m0 rfl (Nat.le_refl _)) rfl (by omega) (by decide) hs3.mid) ?_
      rintro _ w4 ⟨L4, ho4, hs4⟩
      refine RL.p rfl rfl rfl (PV_nilCheckP rfl rfl) ?_
      refine RL.p rfl rfl rfl (by first | exact PV_fieldAddr0 rfl rfl fa123_0 | exact PV_fieldAddr rfl rfl fa123_0) ?_
      refine RL.e0 rfl rfl (EF_store1 rfl rfl rfl sz60 ho4.cell hs4 (by first | exact u0 | exact u1 | exact u2 | exact u3 | exact u4 | exact u5 | exact u0.app | exact u1.app | exact u2.app | exact u3.app)) ?_
      rintro _ w5 hs5
      refine RL.done (nxt ?_)
      repeat (first | refine W.seq ?_ | refine W.region ?_)
      refine RL.p rfl rfl rfl (PV_move rfl rfl) ?_
      refine RL.p rfl rfl rfl (PV_u64_shr (j := 7) rfl rfl rfl rfl rfl (by decide)) ?_
      refine RL.p rfl rfl rfl (PV_assign rfl rfl) ?_
      refine RL.done (round_end (u / 2 ^ 7, q ++ [UInt8.ofNat u ||| 0x80]) ?_ ?_ ?_)
      · repeat first | exact Sub.nil | refine Sub.cons rfl ?_
      · exact ⟨by omega, by rw [← hq]; simp, _, L4, by rw [bcells_append]; exact ho4, hs5.del x0.app⟩
      · first | omega | (dsimp only; omega)
    repeat (first | refine W.seq ?_ | refine W.region ?_)
    have hu1 : u < 128 := by have := of_decide_eq_false h3; omega
    obtain ⟨sl, L, ho, hs2'⟩ := hs2
    rw [numB_lt hu1] at hq
    have hql : q.length + 1 ≤ 2 ^ 40 := by have := congrArg List.length hq; simp at this; simp at hXl; omega
    refine  W.exit (nxt ?_)
    repeat (first | refine W.seq ?_ | refine W.region ?_)
    refine RL.p rfl rfl rfl (PV_move rfl rfl) ?_
    refine RL.p rfl rfl rfl (PV_move rfl rfl) ?_
    refine RL.p rfl rfl rfl (PV_nilCheckP rfl rfl) ?_
    refine RL.p rfl rfl rfl (by first | exact PV_fieldAddr0 rfl rfl fa123_0 | exact PV_fieldAddr rfl rfl fa123_0) ?_
    refine RL.s rfl rfl rfl (PV_loadM1 rfl ag60 rfl (mapp m0) rfl) hs2' ?_
    refine RL.p rfl rfl rfl (PV_move rfl rfl) ?_
    refine RL.p rfl rfl rfl (PV_conv_u64_u8 rfl Tryz.underlying161 Tryz.underlying5 rfl rfl) ?_
    refine RL.e rfl rfl rfl (EF_bs1c rfl el60 rfl rfl hs2') ?_
    rintro _ w3 ⟨b42, rfl, hs3⟩
    refine RL.e rfl rfl rfl (EF_append (l := q.length) rfl el60 rfl rfl ho (by rw [length_bcells]; exact (Nat.mul_one _).symm) (rdW hs3 m0 rfl (Nat.le_refl _)) rfl (by omega) (by decide) hs3.mid) ?_
    rintro _ w4 ⟨L4, ho4, hs4⟩
    refine RL.p rfl rfl rfl (PV_nilCheckP rfl rfl) ?_
    refine RL.p rfl rfl rfl (by first | exact PV_fieldAddr0 rfl rfl fa123_0 | exact PV_fieldAddr rfl rfl fa123_0) ?_
    refine RL.e0 rfl rfl (EF_store1 rfl rfl rfl sz60 ho4.cell hs4 (by first | exact u0 | exact u1 | exact u2 | exact u3 | exact u4 | exact u5 | exact u0.app | exact u1.app | exact u2.app | exact u3.app)) ?_
    rintro _ w5 hs5
    refine RL.done (nxt ?_)
    repeat (first | refine W.seq ?_ | refine W.region ?_)
    refine RL.p rfl rfl rfl (PV_add rfl rfl rfl (by omega)) ?_
    refine RL.p rfl rfl rfl (PV_move rfl rfl) ?_
    refine RL.done (round_end (i + 1) ?_ ?_ ?_)
    · repeat first | exact Sub.nil | refine Sub.cons rfl ?_
    · exact ⟨by omega, _, L4, by rw [← hq, bcells_append]; exact ho4, hs5.del x0.app⟩
    · first | omega | (dsimp only; omega)
  repeat (first | refine W.seq ?_ | refine W.region ?_)
  exact W.exit (end_none rfl ⟨_, rfl, rfl, by have hii : i = ns.length := (by have := of_decide_eq_false h2; omega); rw [hii, List.take_length] at hs1; exact hs1⟩)

theorem C96 {x : Int} (hs : Sat G M I w) : Calls Tryz.prog 96 #[.int .i64 x] w (Ret fun r w' => r = .bool (isVersionB x) ∧ Sat G M I w') := by
  refine enter1 Tryz.func96 rfl Tryz.ntmps96 rfl ?_
  repeat (first | refine W.seq ?_ | refine W.region ?_)
  refine RL.p rfl rfl rfl (PV_assign rfl rfl) ?_
  refine RL.done (nxt ?_)
  repeat (first | refine W.seq ?_ | refine W.region ?_)
  refine RL.p rfl rfl rfl (PV_move rfl rfl) ?_
  refine RL.p rfl rfl rfl (PV_geq rfl rfl rfl) ?_
  refine RL.p rfl rfl rfl (PV_move rfl rfl) ?_
  refine RL.split 5 rfl (fun g1 => ?_) (fun g1 => ?_)
  ·
    refine RL.gp rfl rfl rfl rfl g1 rfl rfl rfl (PV_move rfl rfl) ?_
    refine RL.gp rfl rfl rfl rfl g1 rfl rfl rfl (PV_leq rfl rfl rfl) ?_
    refine RL.p rfl rfl rfl (PV_pickT rfl rfl g1 rfl) ?_
    refine RL.p rfl rfl rfl (PV_assign rfl rfl) ?_
    refine RL.done (nxt ?_)
    repeat (first | refine W.seq ?_ | refine W.region ?_)
    exact W.ret (ret_tmp rfl rfl ⟨_, rfl, (by rw [isVersionB, g1]; rfl), hs⟩)
  ·
    refine RL.gk rfl rfl rfl rfl g1 rfl rfl rfl ?_
    refine RL.gk rfl rfl rfl rfl g1 rfl rfl rfl ?_
    refine RL.p rfl rfl rfl (PV_pickF rfl rfl g1 rfl) ?_
    refine RL.p rfl rfl rfl (PV_assign rfl rfl) ?_
    refine RL.done (nxt ?_)
    repeat (first | refine W.seq ?_ | refine W.region ?_)
    exact W.ret (ret_tmp rfl rfl ⟨_, rfl, (by rw [isVersionB, g1]; rfl), hs⟩)

theorem C97 {x : Int} (hs : Sat G M I w) : Calls Tryz.prog 97 #[.int .i64 x] w (Ret fun r w' => r = .bool (isNumB x) ∧ Sat G M I w') := by
  refine enter1 Tryz.func97 rfl Tryz.ntmps97 rfl ?_
  repeat (first | refine W.seq ?_ | refine W.region ?_)
  refine RL.p rfl rfl rfl (PV_assign rfl rfl) ?_
  refine RL.done (nxt ?_)
  repeat (first | refine W.seq ?_ | refine W.region ?_)
  refine RL.p rfl rfl rfl (PV_move rfl rfl) ?_
  refine RL.p rfl rfl rfl (PV_geq rfl rfl rfl) ?_
  refine RL.p rfl rfl rfl (PV_move rfl rfl) ?_
  refine RL.split 5 rfl (fun g1 => ?_) (fun g1 => ?_)
  ·
    refine RL.gp rfl rfl rfl rfl g1 rfl rfl rfl (PV_move rfl rfl) ?_
    refine RL.gp rfl rfl rfl rfl g1 rfl rfl rfl (PV_leq rfl rfl rfl) ?_
    refine RL.p rfl rfl rfl (PV_pickT rfl rfl g1 rfl) ?_
    refine RL.p rfl rfl rfl (PV_assign rfl rfl) ?_
    refine RL.done (nxt ?_)
    repeat (first | refine W.seq ?_ | refine W.region ?_)
    exact W.ret (ret_tmp rfl rfl ⟨_, rfl, (by rw [isNumB, g1]; rfl), hs⟩)
  ·
    refine RL.gk rfl rfl rfl rfl g1 rfl rfl rfl ?_
    refine RL.gk rfl rfl rfl rfl g1 rfl rfl rfl ?_
    refine RL.p rfl rfl rfl (PV_pickF rfl rfl g1 rfl) ?_
    refine RL.p rfl rfl rfl (PV_assign rfl rfl) ?_
    refine RL.done (nxt ?_)
    repeat (first | refine W.seq ?_ | refine W.region ?_)
    exact W.ret (ret_tmp rfl rfl ⟨_, rfl, (by rw [isNumB, g1]; rfl), hs⟩)

theorem C88 {v : Value} {l : List UInt8} (hv : SlM G M I 1 v l.length (bcells l)) (hl : l.length ≤ 2 ^ 40) (hs : Sat G M I w) : Calls Tryz.prog 88 #[v] w (Ret fun r w' => ∃ J, Le I J ∧ SlB J r l ∧ Sat G M J w') := by
  obtain ⟨A, c, rfl, hc⟩ := hv.shape
  refine enter1 Tryz.func88 rfl Tryz.ntmps88 rfl ?_
  repeat (first | refine W.seq ?_ | refine W.region ?_)
  refine RL.p rfl rfl rfl (PV_assign rfl rfl) ?_
  refine RL.done (nxt ?_)
  repeat (first | refine W.seq ?_ | refine W.region ?_)
  refine RL.p rfl rfl rfl (PV_move rfl rfl) ?_
  refine RL.p rfl rfl rfl (PV_eqnils rfl Tryz.underlying60 rfl rfl) ?_
  refine RL.done (nxt ?_)
  repeat (first | refine W.seq ?_ | refine W.region ?_)
  refine W.cond rfl (fun h1 => ?_) (fun h1 => ?_)
  ·
    repeat (first | refine W.seq ?_ | refine W.region ?_)
    refine RL.p rfl rfl rfl (PV_assign rfl rfl) ?_
    refine RL.done (nxt ?_)
    repeat (first | refine W.seq ?_ | refine W.region ?_)
    have hA : A = none := by cases A with
      | none => rfl
      | some a => cases h1
    subst hA
    have h00 : l = [] := by
      obtain ⟨_, A, c, he, _, h⟩ := hv
      rcases h with h | ⟨b, off, h, _⟩
      · exact List.eq_nil_of_length_eq_zero h
      · subst h; cases he
    subst h00
    exact W.ret (ret_tmp rfl rfl ⟨_, rfl, I, Le.refl I, SlB.nil, hs⟩)
  refine W.skip (nxt ?_)
  repeat (first | refine W.seq ?_ | refine W.region ?_)
  refine RL.e rfl rfl rfl (EF_bs0 rfl el60 hs) ?_
  rintro _ w1 ⟨b5, rfl, hs1⟩
  refine RL.p rfl rfl rfl (PV_move rfl rfl) ?_
  refine RL.e rfl rfl rfl (EF_append (l := 0) (olds := []) rfl el60 rfl rfl (OwnS.lit (m := 0) rfl) rfl (hv.rd hs1.tail) (one1_bcells _) (by omega) (by decide) hs1) ?_
  rintro _ w2 ⟨L2, ho2, hs2⟩
  refine RL.p rfl rfl rfl (PV_assign rfl rfl) ?_
  refine RL.done (nxt ?_)
  repeat (first | refine W.seq ?_ | refine W.region ?_)
  obtain ⟨J, hj, hv2, hs3⟩ := OwnS.freeze (m := l.length) (sz := 1) ho2 (by simp [length_bcells]) (by decide) hs2
  exact W.ret (ret_tmp rfl rfl ⟨_, rfl, J, hj, hv2, hs3⟩)

theorem C94 {wb : Nat} {TT : TypeId} {l : List UInt8} (h0 : Wr G M I wb TT l w) (hl : l.length ≤ 2 ^ 40) : Calls Tryz.prog 94 #[ptr wb 0] w (Ret fun r w' => ∃ J, Le I J ∧ SlB J r l ∧ Sat G M J w') := by
  obtain ⟨sl, L, ho, hs⟩ := h0
  refine enter1 Tryz.func94 rfl Tryz.ntmps94 rfl ?_
  repeat (first | refine W.seq ?_ | refine W.region ?_)
  refine RL.p rfl rfl rfl (PV_assign rfl rfl) ?_
  refine RL.done (nxt ?_)
  repeat (first | refine W.seq ?_ | refine W.region ?_)
  refine RL.p rfl rfl rfl (PV_move rfl rfl) ?_
  refine RL.p rfl rfl rfl (PV_eqnil rfl Tryz.underlying182 rfl rfl) ?_
  refine RL.done (nxt ?_)
  repeat (first | refine W.seq ?_ | refine W.region ?_)
  refine W.cond rfl (fun h1 => ?_) (fun h1 => ?_)
  · cases h1
  refine W.skip (nxt ?_)
  repeat (first | refine W.seq ?_ | refine W.region ?_)
  refine RL.p rfl rfl rfl (PV_move rfl rfl) ?_
  refine RL.p rfl rfl rfl (PV_nilCheckP rfl rfl) ?_
  refine RL.p rfl rfl rfl (by first | exact PV_fieldAddr0 rfl rfl fa123_0 | exact PV_fieldAddr rfl rfl fa123_0) ?_
  refine RL.s rfl rfl rfl (PV_loadM1 rfl ag60 rfl (mapp m0) rfl) hs ?_
  refine RL.e rfl rfl rfl (K1 rfl fn88 rfl (C88 (ho.toM (by simp [length_bcells]) (by decide)) hl hs)) ?_
  rintro _ w1 ⟨J, hj, hv, hs1⟩
  refine RL.p rfl rfl rfl (PV_assign rfl rfl) ?_
  refine RL.done (nxt ?_)
  repeat (first | refine W.seq ?_ | refine W.region ?_)
  exact W.ret (ret_tmp rfl rfl ⟨_, rfl, J, hj, hv, hs1.drop.tail⟩)

theorem C111 {wb : Nat} {TT : TypeId} {v : Value} {l l' : List UInt8} (h0 : Wr G M I wb TT l w) (hv : SlM G M I 1 v l'.length (bcells l')) (hl : (l ++ l').length ≤ 2 ^ 40) : Calls Tryz.prog 111 #[ptr wb 0, v] w (Ret fun r w' => r = .tuple #[] ∧ Wr G M I wb TT (l ++ l') w') := by
  have hvr := hv.rd h0.sat
  obtain ⟨sl, L, ho, hs⟩ := h0
  refine enter2 Tryz.func111 rfl Tryz.ntmps111 rfl ?_
  repeat (first | refine W.seq ?_ | refine W.region ?_)
  refine RL.p rfl rfl rfl (PV_move rfl rfl) ?_
  refine RL.p rfl rfl rfl (PV_nenil rfl Tryz.underlying182 rfl rfl) ?_
  refine RL.done (nxt ?_)
  repeat (first | refine W.seq ?_ | refine W.region ?_)
  refine W.cond rfl (fun h1 => ?_) (fun h1 => ?_)
  rotate_left
  · cases h1
  repeat (first | refine W.seq ?_ | refine W.region ?_)
  refine RL.p rfl rfl rfl (PV_move rfl rfl) ?_
  refine RL.p rfl rfl rfl (PV_move rfl rfl) ?_
  refine RL.p rfl rfl rfl (PV_nilCheckP rfl rfl) ?_
  refine RL.p rfl rfl rfl (by first | exact PV_fieldAddr0 rfl rfl fa123_0 | exact PV_fieldAddr rfl rfl fa123_0) ?_
  refine RL.s rfl rfl rfl (PV_loadM1 rfl ag60 rfl (mapp m0) rfl) hs ?_
  refine RL.p rfl rfl rfl (PV_move rfl rfl) ?_
  refine RL.e rfl rfl rfl (EF_append (l := l.length) rfl el60 rfl rfl ho (by rw [length_bcells]; exact (Nat.mul_one _).symm) hvr (one1_bcells _) (by simp at hl; omega) (by decide) hs) ?_
  rintro _ w1 ⟨L1, ho1, hs1⟩
  refine RL.p rfl rfl rfl (PV_nilCheckP rfl rfl) ?_
  refine RL.p rfl rfl rfl (by first | exact PV_fieldAddr0 rfl rfl fa123_0 | exact PV_fieldAddr rfl rfl fa123_0) ?_
  refine RL.e0 rfl rfl (EF_store1 rfl rfl rfl sz60 ho1.cell hs1 (by first | exact u0 | exact u1 | exact u2 | exact u3 | exact u4 | exact u5 | exact u0.app | exact u1.app | exact u2.app | exact u3.app)) ?_
  rintro _ w2 hs2
  exact RL.done (end_none rfl ⟨_, rfl, rfl, _, L1, by rw [bcells_append]; exact ho1, hs2⟩)

theorem C110 {wb ab : Nat} {TT : TypeId} {v : Value} {l l' : List UInt8} (h0 : Wr G M I wb TT l w) (hm : (ab, [v], 60) ∈ M) (hv : SlM G M I 1 v l'.length (bcells l')) (hl : (l ++ rowB l').length ≤ 2 ^ 40) : Calls Tryz.prog 110 #[ptr wb 0, .slice (some ⟨ab, 0, none⟩) 1 1] w (Ret fun r w' => r = .tuple #[] ∧ Wr G M I wb TT (l ++ rowB l') w') := by
  obtain ⟨A, c, rfl, hc⟩ := hv.shape
  refine enter2 Tryz.func110 rfl Tryz.ntmps110 rfl ?_
  repeat (first | refine W.seq ?_ | refine W.region ?_)
  refine RL.p rfl rfl rfl (PV_move rfl rfl) ?_
  refine RL.p rfl rfl rfl (PV_len rfl Tryz.underlying221 rfl) ?_
  refine RL.p rfl rfl rfl (PV_move rfl rfl) ?_
  refine RL.done (nxt ?_)
  repeat (first | refine W.seq ?_ | refine W.region ?_)
  refine W.block ?_
  repeat (first | refine W.seq ?_ | refine W.region ?_)
  refine W.loop (F := fun i : Nat => [(8, .int .i64 (i : Int)), (7, .int .i64 (1 : Int)), (6, .slice (some ⟨ab, 0, none⟩) 1 1), (0, ptr wb 0)]) (J := fun i w => i ≤ 1 ∧ Wr G M I wb TT (if i = 0 then l else l ++ rowB l') w) (m := fun i => 1 - i) 0 (by repeat first | exact Sub.nil | refine Sub.cons rfl ?_) ⟨by omega, h0⟩ ?_
  rintro i w1 ⟨hi, hs1⟩
  repeat (first | refine W.seq ?_ | refine W.region ?_)
  refine RL.p rfl rfl rfl (PV_lss rfl rfl rfl) ?_
  refine RL.done (nxt ?_)
  repeat (first | refine W.seq ?_ | refine W.region ?_)
  refine W.cond rfl (fun h1 => ?_) (fun h1 => ?_)
  ·
    obtain rfl : i = 0 := by have := of_decide_eq_true h1; omega
    simp only [if_true] at hs1
    have hl2 : (l ++ nums [(l'.length : Int)]).length ≤ 2 ^ 40 := by simp only [rowB, List.length_append] at hl ⊢; omega
    refine  W.skip (nxt ?_)
    repeat (first | refine W.seq ?_ | refine W.region ?_)
    refine W.block ?_
    repeat (first | refine W.seq ?_ | refine W.region ?_)
    refine RL.p rfl rfl rfl (PV_indexAddr1 0 rfl Tryz.underlying221 sz60 rfl rfl rfl (by omega)) ?_
    refine RL.s rfl rfl rfl (PV_loadM1 rfl ag60 rfl hm rfl) hs1.sat ?_
    refine RL.p rfl rfl rfl (PV_assign rfl rfl) ?_
    refine RL.done (nxt ?_)
    repeat (first | refine W.seq ?_ | refine W.region ?_)
    refine RL.p rfl rfl rfl (PV_move rfl rfl) ?_
    refine RL.p rfl rfl rfl (PV_move rfl rfl) ?_
    refine RL.p rfl rfl rfl (PV_len rfl Tryz.underlying60 rfl) ?_
    obtain ⟨sl, L, ho, hs1⟩ := hs1
    refine RL.e rfl rfl rfl (EF_bs1c rfl el178 rfl rfl hs1) ?_
    rintro _ w2 ⟨b15, rfl, hs2⟩
    refine RL.e rfl rfl rfl (K2 rfl fn56 rfl rfl (C56 (ns := [(l'.length : Int)]) (Wr.in ho hs2) (SlM.own m0 rfl (Nat.le_refl _)) hl2)) ?_
    rintro _ w3 ⟨rfl, hs3⟩
    refine RL.done (nxt ?_)
    repeat (first | refine W.seq ?_ | refine W.region ?_)
    refine RL.p rfl rfl rfl (PV_move rfl rfl) ?_
    refine RL.p rfl rfl rfl (PV_move rfl rfl) ?_
    refine RL.e rfl rfl rfl (K2 rfl fn111 rfl rfl (C111 hs3.tail hv (by rw [List.append_assoc]; exact hl))) ?_
    rintro _ w4 ⟨rfl, hs4⟩
    refine RL.done (nxt ?_)
    repeat (first | refine W.seq ?_ | refine W.region ?_)
    refine RL.p rfl rfl rfl (PV_add rfl rfl rfl (by omega)) ?_
    refine RL.p rfl rfl rfl (PV_move rfl rfl) ?_
    refine RL.done (round_end (0 + 1) ?_ ?_ ?_)
    · repeat first | exact Sub.nil | refine Sub.cons rfl ?_
    · exact ⟨by omega, by rw [if_neg (by omega)]; rw [List.append_assoc] at hs4; exact hs4⟩
    · first | omega | (dsimp only; omega)
  repeat (first | refine W.seq ?_ | refine W.region ?_)
  exact W.exit (end_none rfl ⟨_, rfl, rfl, by rw [if_neg (by have := of_decide_eq_false h1; omega)] at hs1; exact hs1⟩)

theorem C64 {wb : Nat} {TT : TypeId} {s : ByteArray} {l : List UInt8} (h0 : Wr G M I wb TT l w) (hl : (l ++ rowB (sbytes s)).length ≤ 2 ^ 40) : Calls Tryz.prog 64 #[ptr wb 0, .string s] w (Ret fun r w' => r = .tuple #[] ∧ Wr G M I wb TT (l ++ rowB (sbytes s)) w') := by
  obtain ⟨sl, L, ho, hs⟩ := h0
  refine enter2 Tryz.func64 rfl Tryz.ntmps64 rfl ?_
  repeat (first | refine W.seq ?_ | refine W.region ?_)
  refine RL.p rfl rfl rfl (PV_move rfl rfl) ?_
  refine RL.p rfl rfl rfl (PV_nilCheckP rfl rfl) ?_
  refine RL.p rfl rfl rfl (by first | exact PV_fieldAddr0 rfl rfl fa125_0 | exact PV_fieldAddr rfl rfl fa125_0) ?_
  refine RL.p rfl rfl rfl (PV_move rfl rfl) ?_
  refine RL.e rfl rfl rfl (EF_bytes rfl Tryz.underlying9 Tryz.underlying60 Tryz.underlying5 rfl hs) ?_
  rintro _ w1 ⟨J1, hj1, hb1, hs1⟩
  refine RL.e rfl rfl rfl (EF_bs1c rfl el221 rfl hb1.cell hs1) ?_
  rintro _ w2 ⟨b9, rfl, hs2⟩
  refine RL.e rfl rfl rfl (K2 rfl fn110 rfl rfl (C110 (Wr.in ho hs2) m0 hb1.toM hl)) ?_
  rintro _ w3 ⟨rfl, hs3⟩
  exact RL.done (end_none rfl ⟨_, rfl, rfl, hs3.tail.le hj1⟩)

theorem C75 {wb : Nat} {TT : TypeId} {h l : List UInt8} (h0 : Wr G M I wb TT l w) (h32 : h.length = 32) (hl : (l ++ h).length ≤ 2 ^ 40) : Calls Tryz.prog 75 #[ptr wb 0, aggL (bcells h)] w (Ret fun r w' => r = .tuple #[] ∧ Wr G M I wb TT (l ++ h) w') := by
  obtain ⟨sl, L, ho, hs⟩ := h0
  refine enter2 Tryz.func75 rfl Tryz.ntmps75 rfl ?_
  repeat (first | refine W.seq ?_ | refine W.region ?_)
  refine RL.e rfl rfl rfl (EF_boxA rfl rfl hs) ?_
  rintro _ w1 ⟨b3, rfl, hs1⟩
  refine RL.done (nxt ?_)
  repeat (first | refine W.seq ?_ | refine W.region ?_)
  refine W.drawsH hs1.tail.drop.tail [(0, true), (1, true), (2, true), (3, false), (4, false)] mixed (by kernel_rfl) (by kernel_rfl) ?_
  have hs2 := hs1.drew
  refine TW.p rfl rfl rfl rfl (PV_move rfl rfl) (hs2.tail.drop.tail) ?_
  refine TW.p rfl rfl rfl rfl (PV_nilCheckP rfl rfl) (hs2.tail.drop.tail) ?_
  refine TW.p rfl rfl rfl rfl (by first | exact PV_fieldAddr0 rfl rfl fa125_0 | exact PV_fieldAddr rfl rfl fa125_0) (hs2.tail.drop.tail) ?_
  refine TW.q rfl rfl rfl rfl (T := fun _ => True) (PV_sliceArr rfl Tryz.underlying24 rfl sz5) trivial (fun _ => (hs2.tail.drop.tail)) ?_
  refine TW.e rfl rfl rfl rfl (K2 rfl fn111 rfl rfl (C111 (Wr.in ho hs2) (h32 ▸ SlM.own m0 (by simp [length_bcells]) (Nat.le_refl _)) hl)) ?_
  rintro _ w3 ⟨rfl, hs3⟩
  refine ⟨(hs3.sat.tail), ?_⟩
  exact TW.done (end_none rfl ⟨_, rfl, rfl, hs3.tail⟩)

end Go.Proofs.YtecbpmgfikgoaaaGreatDoor
end
section
set_option linter.unusedVariables false
set_option linter.unusedSimpArgs false
namespace Go.Proofs.YtecbpmgfikgoaaaGreatDoor
open Go Go.RowKit
section
variable {P : Program} {n : Nat} {E : List (Nat × Value)} {S : World → Prop} {o : Oper} {G w : World} {M M' L : List Chunk} {I J : Imm}
theorem PV_indexs {T : TypeId} {x y : Operand} {s : ByteArray} {k : IntKind} {p : Int} {b : UInt8} (i : Nat) (ho : o.op = .index T x y) (ht : P.underlying T = some .string) (hx : ev E x = some (.string s)) (hy : ev E y = some (.int k p)) (hp : p = (i : Int)) (hb : (sbytes s)[i]? = some b) : PV P n o E S (u8v b) := .of fun a ha w => by
  subst hp
  have h0 : (0 : Int) ≤ (i : Int) := by omega
  have hi : s[i]? = some b := by
    have h1 := (List.getElem?_eq_some_iff.1 hb).1
    have h2 := (List.getElem?_eq_some_iff.1 hb).2
    rw [length_sbytes] at h1
    rw [getElem?_pos s i h1]
    congr 1
  simp [execOp, ho, ha.ev hx, ha.ev hy, Instr.index, run_underlying ht, asIntOf, h0, hi, u8v]
theorem PV_slices {T : TypeId} {x : Operand} {lo hi : Option Operand} {s : ByteArray} {p r : Nat} (ho : o.op = .slice T x lo hi none) (ht : P.underlying T = some .string) (hx : ev E x = some (.string s))
    (hlo : (lo = none ∧ p = 0) ∨ ∃ y, lo = some y ∧ ∃ k pp, ev E y = some (.int k pp) ∧ pp = (p : Int)) (hhi : (hi = none ∧ r = s.size) ∨ ∃ y, hi = some y ∧ ∃ k rr, ev E y = some (.int k rr) ∧ rr = (r : Int)) (h1 : p ≤ r) (h2 : r ≤ s.size) :
    PV P n o E S (.string (s.extract p r)) := .of fun ac ha w => by
  rcases hlo with ⟨rfl, rfl⟩ | ⟨y, rfl, k, pp, hy, rfl⟩ <;> rcases hhi with ⟨rfl, rfl⟩ | ⟨z, rfl, k', rr, hz, rfl⟩
  · simp [execOp, ho, ha.ev hx, Instr.sliceAt, Instr.slice, run_underlying ht, Instr.sliceBounds]
  · have g : (0 : Int) ≤ (r : Int) ∧ (r : Int) ≤ (s.size : Int) := by omega
    simp [execOp, ho, ha.ev hx, ha.ev hz, Instr.sliceAt, Instr.slice, run_underlying ht, Instr.sliceBounds, Instr.sliceBound, asIntOf, g, h2]
  · have g : (0 : Int) ≤ (p : Int) ∧ (p : Int) ≤ (s.size : Int) := by omega
    simp [execOp, ho, ha.ev hx, ha.ev hy, Instr.sliceAt, Instr.slice, run_underlying ht, Instr.sliceBounds, Instr.sliceBound, asIntOf, g, h1]
  · have g : (0 : Int) ≤ (r : Int) ∧ (r : Int) ≤ (s.size : Int) := by omega
    have g' : (0 : Int) ≤ (p : Int) ∧ (p : Int) ≤ (r : Int) := by omega
    simp [execOp, ho, ha.ev hx, ha.ev hy, ha.ev hz, Instr.sliceAt, Instr.slice, run_underlying ht, Instr.sliceBounds, Instr.sliceBound, asIntOf, g, g', h1, h2]
theorem sbytes_extract (s : ByteArray) (p r : Nat) : sbytes (s.extract p r) = ((sbytes s).drop p).take (r - p) := by
  simp [sbytes, ByteArray.data_extract, List.extract_eq_take_drop]
theorem toList_sbytes (s : ByteArray) : s.toList = sbytes s := ByteArray.toList_eq s
theorem sbytes_inj {s t : ByteArray} (h : sbytes s = sbytes t) : s = t := by
  cases s; cases t
  simp only [sbytes] at h
  congr 1
  exact Array.toList_inj.1 h
theorem beq_empty (s : ByteArray) : (s.toList == (⟨#[]⟩ : ByteArray).toList) = decide (s.size = 0) := by
  rw [toList_sbytes, toList_sbytes, show sbytes ⟨#[]⟩ = [] from rfl, ← length_sbytes]
  cases sbytes s <;> rfl
theorem sbytes_empty {s : ByteArray} (h : s.size = 0) : sbytes s = [] := List.eq_nil_of_length_eq_zero (by rw [length_sbytes]; exact h)
/-- The cells of a set of bytes. -/
def setC (l : List UInt8) : List Value := (List.range 256).map fun i => .bool (l.any fun c => c.toNat == i)
theorem length_setC (l : List UInt8) : (setC l).length = 256 := by simp [setC]
theorem setC_nil : setC [] = zl235 := by
  have : zl235 = (List.range 256).map fun _ => Value.bool false := by
    rw [List.map_const', List.length_range]
    rfl
  rw [this]
  rfl
theorem setC_get (l : List UInt8) (c : UInt8) : (setC l)[c.toNat]? = some (.bool (l.contains c)) := by
  have h : c.toNat < 256 := c.toNat_lt
  simp only [setC, List.getElem?_map, List.getElem?_range h, Option.map_some]
  congr 2
  rw [List.contains_eq_any_beq]
  congr 1
  funext d
  rw [Bool.eq_iff_iff]
  simp only [beq_iff_eq]
  exact ⟨fun h => (UInt8.toNat_inj.1 h).symm, fun h => by rw [h]⟩
theorem setC_set (l : List UInt8) (c : UInt8) : (setC l).set c.toNat (.bool true) = setC (l ++ [c]) := by
  apply List.ext_getElem?
  intro k
  rw [List.getElem?_set, length_setC]
  simp only [setC, List.getElem?_map]
  by_cases h1 : c.toNat = k
  · subst h1
    have h : c.toNat < 256 := c.toNat_lt
    simp [h, List.getElem?_range h]
  · rw [if_neg h1]
    by_cases h2 : k < 256
    · simp [List.getElem?_range h2, h1]
    · rw [List.getElem?_eq_none (by simp; omega)]
      rfl
theorem one1_setC (l : List UInt8) : one1 (setC l) = true := by simp [one1, setC, Value.oneCell']
attribute [irreducible] setC
/-- Bytes cut off at the end. -/
def trimR (p : UInt8 → Bool) (l : List UInt8) : List UInt8 := (l.reverse.dropWhile p).reverse
theorem length_trimR (p : UInt8 → Bool) (l : List UInt8) : (trimR p l).length ≤ l.length := by
  have h : ∀ q : List UInt8, (q.dropWhile p).length ≤ q.length := by
    intro q
    induction q with
    | nil => simp
    | cons c q ih => rw [List.dropWhile_cons]; split <;> simp; omega
  have := h l.reverse
  simp only [trimR, List.length_reverse] at this ⊢
  exact this
theorem trimR_stop {p : UInt8 → Bool} {l : List UInt8} {c : UInt8} (hl : l.getLast? = some c) (h : p c = false) : trimR p l = l := by
  rw [List.getLast?_eq_head?_reverse] at hl
  cases hr : l.reverse with
  | nil => simp [hr] at hl
  | cons d r =>
    simp only [hr, List.head?_cons, Option.some.injEq] at hl
    subst hl
    simp only [trimR, hr, List.dropWhile_cons, h]
    rw [← hr]
    simp
theorem trimR_go {p : UInt8 → Bool} {l : List UInt8} {c : UInt8} (hl : l.getLast? = some c) (h : p c = true) : trimR p l = trimR p l.dropLast := by
  have : l = l.dropLast ++ [c] := by
    have hne : l ≠ [] := by rintro rfl; simp at hl
    rw [List.getLast?_eq_some_getLast hne, Option.some.injEq] at hl
    rw [← hl, List.dropLast_concat_getLast]
  conv => lhs; rw [this]
  simp [trimR, List.dropWhile_cons, h]
def trimB (p : UInt8 → Bool) (l : List UInt8) : List UInt8 := (trimR p l).dropWhile p
theorem trimB_nil {p : UInt8 → Bool} {l : List UInt8} : trimB p l = [] ↔ l.all p = true := by
  have h1 : ∀ l : List UInt8, l.dropWhile p = [] ↔ l.all p = true := by
    intro l
    induction l with
    | nil => simp
    | cons c l ih =>
      rw [List.dropWhile_cons]
      cases h : p c <;> simp [h, ih]
  unfold trimB trimR
  constructor
  · intro h
    have h2 := (h1 _).1 h
    cases hd : l.reverse.dropWhile p with
    | nil => have := (h1 _).1 hd; simpa using this
    | cons c r =>
      rw [hd] at h2
      have : p c = true := by simp at h2; exact h2.2
      have hne := List.head_dropWhile_not p (l := l.reverse) (by rw [hd]; simp)
      simp [hd, this] at hne
  · intro h
    have : l.reverse.dropWhile p = [] := (h1 _).2 (by simpa using h)
    rw [this]
    rfl
end
end Go.Proofs.YtecbpmgfikgoaaaGreatDoor
end
section
set_option linter.unusedVariables false
set_option linter.unusedSimpArgs false
set_option maxRecDepth 8000
set_option maxHeartbeats 4000000
namespace Go.Proofs.YtecbpmgfikgoaaaGreatDoor
open Go Go.RowKit
variable {G w : World} {M : List Chunk} {I : Imm}

def signsL : List UInt8 := [97, 98, 99, 100, 101, 102, 103, 104, 105, 106, 107, 108, 109, 110, 111, 112, 113, 114, 115, 116, 117, 118, 119, 120, 121, 122, 48, 49, 50, 51, 52, 53, 54, 55, 56, 57, 45]
def nameB (s : ByteArray) : Bool := decide (s.size ≠ 0) && (decide (s.size ≤ 12) && (sbytes s).all signsL.contains)
theorem name_ok {s t : ByteArray} (h1 : (!(s.toList == (⟨#[]⟩ : ByteArray).toList)) = true) (h2 : decide ((s.size : Int) ≤ 12) = true) (h3 : sbytes t = trimB signsL.contains (sbytes s)) : Value.bool (t.toList == (⟨#[]⟩ : ByteArray).toList) = Value.bool (nameB s) := by
  have h4 : (t.toList == (⟨#[]⟩ : ByteArray).toList) = (sbytes s).all signsL.contains := by
    rw [beq_empty, ← length_sbytes, h3, Bool.eq_iff_iff, decide_eq_true_eq, List.length_eq_zero_iff, trimB_nil]
  have h5 : s.size ≤ 12 := by have := of_decide_eq_true h2; omega
  have h6 : s.size ≠ 0 := by rw [beq_empty] at h1; simpa using h1
  simp only [nameB, h4, h5, h6, ne_eq, not_false_eq_true, decide_true, Bool.true_and]
theorem name_no2 {s : ByteArray} (h2 : decide ((s.size : Int) ≤ 12) = false) : Value.bool false = Value.bool (nameB s) := by
  have h5 : ¬ s.size ≤ 12 := by have := of_decide_eq_false h2; omega
  simp only [nameB, h5, decide_false, Bool.false_and, Bool.and_false]
theorem name_no1 {s : ByteArray} (h1 : (!(s.toList == (⟨#[]⟩ : ByteArray).toList)) = false) : Value.bool false = Value.bool (nameB s) := by
  have h6 : s.size = 0 := by rw [beq_empty] at h1; simpa using h1
  simp [nameB, h6]
attribute [irreducible] nameB

theorem C176 {b : Nat} {cs : List Value} {c : UInt8} {q : Bool} (hm : (b, cs, 235) ∈ M) (hc : cs[c.toNat]? = some (.bool q)) (hs : Sat G M I w) : Calls Tryz.prog 176 #[ptr b 0, u8v c] w (Ret fun r w' => r = .bool q ∧ Sat G M I w') := by
  refine enter2 Tryz.func176 rfl Tryz.ntmps176 rfl ?_
  repeat (first | refine W.seq ?_ | refine W.region ?_)
  refine RL.p rfl rfl rfl (PV_assign rfl rfl) ?_
  refine RL.done (nxt ?_)
  repeat (first | refine W.seq ?_ | refine W.region ?_)
  refine RL.p rfl rfl rfl (PV_move rfl rfl) ?_
  refine RL.p rfl rfl rfl (PV_move rfl rfl) ?_
  refine RL.p rfl rfl rfl (PV_nilCheckP rfl rfl) ?_
  refine RL.p rfl rfl rfl (PV_indexArr1 c.toNat rfl Tryz.underlying235 sz4 rfl rfl rfl c.toNat_lt) ?_
  refine RL.s rfl rfl rfl (PV_loadM1 rfl ag4 rfl hm hc) hs ?_
  refine RL.p rfl rfl rfl (PV_assign rfl rfl) ?_
  refine RL.done (nxt ?_)
  repeat (first | refine W.seq ?_ | refine W.region ?_)
  exact W.ret (ret_tmp rfl rfl ⟨_, rfl, rfl, hs⟩)

theorem C162 {s : ByteArray} (h128 : ∀ c ∈ sbytes s, c.toNat < 128) (hsz : s.size ≤ 2 ^ 20) (hs : Sat G M I w) : Calls Tryz.prog 162 #[.string s] w (Ret fun r w' => r = .tuple #[aggL (setC (sbytes s)), .bool true] ∧ Sat G M I w') := by
  refine enter1 Tryz.func162 rfl Tryz.ntmps162 rfl ?_
  repeat (first | refine W.seq ?_ | refine W.region ?_)
  refine RL.e rfl rfl rfl (EF_allocA rfl zr235 hs) ?_
  rintro _ w1 ⟨b2, rfl, hs1⟩
  refine RL.p rfl rfl rfl (PV_assign rfl rfl) ?_
  refine RL.done (nxt ?_)
  repeat (first | refine W.seq ?_ | refine W.region ?_)
  refine RL.p rfl rfl rfl (PV_assign rfl rfl) ?_
  refine RL.done (nxt ?_)
  repeat (first | refine W.seq ?_ | refine W.region ?_)
  refine W.block ?_
  repeat (first | refine W.seq ?_ | refine W.region ?_)
  refine W.loop (F := fun i : Nat => [(4, .int .i64 (i : Int)), (0, .string s), (2, ptr b2 0)]) (J := fun i w => i ≤ s.size ∧ Sat G ((b2, setC ((sbytes s).take i), 235) :: M) I w) (m := fun i => s.size - i) 0 (by repeat first | exact Sub.nil | refine Sub.cons rfl ?_) ⟨by omega, by rw [List.take_zero, setC_nil]; exact hs1⟩ ?_
  rintro i w2 ⟨hi, hs2⟩
  repeat (first | refine W.seq ?_ | refine W.region ?_)
  refine RL.p rfl rfl rfl (PV_move rfl rfl) ?_
  refine RL.p rfl rfl rfl (PV_move rfl rfl) ?_
  refine RL.p rfl rfl rfl (PV_lens rfl Tryz.underlying9 rfl) ?_
  refine RL.p rfl rfl rfl (PV_lss rfl rfl rfl) ?_
  refine RL.done (nxt ?_)
  repeat (first | refine W.seq ?_ | refine W.region ?_)
  refine W.cond rfl (fun h1 => ?_) (fun h1 => ?_)
  ·
    have hi1 : i < s.size := by have := of_decide_eq_true h1; omega
    obtain ⟨c, hx⟩ : ∃ c, (sbytes s)[i]? = some c := ⟨_, List.getElem?_eq_getElem (by rw [length_sbytes]; exact hi1)⟩
    have h128c := h128 c (List.mem_of_getElem? hx)
    have htk : (sbytes s).take i ++ [c] = (sbytes s).take (i + 1) := by
      rw [List.take_add_one, hx]
      rfl
    refine  W.skip (nxt ?_)
    repeat (first | refine W.seq ?_ | refine W.region ?_)
    refine W.block ?_
    repeat (first | refine W.seq ?_ | refine W.region ?_)
    refine RL.p rfl rfl rfl (PV_move rfl rfl) ?_
    refine RL.p rfl rfl rfl (PV_move rfl rfl) ?_
    refine RL.p rfl rfl rfl (PV_indexs i rfl Tryz.underlying9 rfl rfl rfl hx) ?_
    refine RL.p rfl rfl rfl (PV_assign rfl rfl) ?_
    refine RL.done (nxt ?_)
    repeat (first | refine W.seq ?_ | refine W.region ?_)
    refine RL.p rfl rfl rfl (PV_move rfl rfl) ?_
    refine RL.p rfl rfl rfl (PV_geq rfl rfl rfl) ?_
    refine RL.done (nxt ?_)
    repeat (first | refine W.seq ?_ | refine W.region ?_)
    refine W.cond rfl (fun h2 => ?_) (fun h2 => ?_)
    · exact absurd (of_decide_eq_true h2) (by omega)
    refine W.skip (nxt ?_)
    repeat (first | refine W.seq ?_ | refine W.region ?_)
    refine RL.p rfl rfl rfl (PV_move rfl rfl) ?_
    refine RL.p rfl rfl rfl (PV_indexArr1 c.toNat rfl Tryz.underlying235 sz4 rfl rfl rfl c.toNat_lt) ?_
    refine RL.e0 rfl rfl (EF_storeC (cs := setC ((sbytes s).take i)) rfl rfl rfl sz4 rfl (by rw [length_setC]; exact c.toNat_lt) (by rw [setC_set, htk]) hs2 (by first | exact u0 | exact u1 | exact u2 | exact u3 | exact u4 | exact u5 | exact u0.app | exact u1.app | exact u2.app | exact u3.app)) ?_
    rintro _ w3 hs3
    refine RL.done (nxt ?_)
    repeat (first | refine W.seq ?_ | refine W.region ?_)
    refine RL.p rfl rfl rfl (PV_move rfl rfl) ?_
    refine RL.p rfl rfl rfl (PV_add rfl rfl rfl (by omega)) ?_
    refine RL.p rfl rfl rfl (PV_assign rfl rfl) ?_
    refine RL.done (round_end (i + 1) ?_ ?_ ?_)
    · repeat first | exact Sub.nil | refine Sub.cons rfl ?_
    · exact ⟨by omega, hs3⟩
    · first | omega | (dsimp only; omega)
  repeat (first | refine W.seq ?_ | refine W.region ?_)
  refine  W.exit (nxt ?_)
  have hii : i = s.size := by have := of_decide_eq_false h1; omega
  rw [hii, ← length_sbytes, List.take_length] at hs2
  repeat (first | refine W.seq ?_ | refine W.region ?_)
  refine RL.s rfl rfl rfl (PV_loadMA rfl ag235 sz235 rfl (by first | exact m0 | exact m1 | exact m2 | exact m3 | exact m4 | exact m5 | exact mapp m0 | exact mapp m1 | exact mapp m2 | exact mapp m3) (by rw [length_setC]; decide) (part_whole (length_setC _))) hs2 ?_
  refine RL.e0 rfl rfl (EF_storeA (cs := setC (sbytes s)) rfl rfl rfl (by rw [length_setC]; exact sz235) rfl (one1_setC _) hs2 (by first | exact u0 | exact u1 | exact u2 | exact u3 | exact u4 | exact u5 | exact u0.app | exact u1.app | exact u2.app | exact u3.app)) ?_
  rintro _ w3 hs3
  refine RL.p rfl rfl rfl (PV_assign rfl rfl) ?_
  refine RL.done (nxt ?_)
  repeat (first | refine W.seq ?_ | refine W.region ?_)
  exact W.ret (ret_cell2 rfl rfl rfl (ldA ag235 sz235 hs3 (by first | exact m0 | exact m1 | exact m2 | exact m3 | exact m4 | exact m5) (length_setC _)) ⟨_, rfl, rfl, hs3.tail⟩)

theorem C163 {b : Nat} {cs : List Value} {s : ByteArray} {p : UInt8 → Bool} (hm : (b, cs, 235) ∈ M) (hc : ∀ c : UInt8, cs[c.toNat]? = some (.bool (p c))) (hsz : s.size ≤ 2 ^ 40) (hs : Sat G M I w) : Calls Tryz.prog 163 #[.string s, ptr b 0] w (Ret fun r w' => (∃ t, r = .string t ∧ sbytes t = (sbytes s).dropWhile p) ∧ Sat G M I w') := by
  refine enter2 Tryz.func163 rfl Tryz.ntmps163 rfl ?_
  repeat (first | refine W.seq ?_ | refine W.region ?_)
  refine RL.p rfl rfl rfl (PV_assign rfl rfl) ?_
  refine RL.done (nxt ?_)
  repeat (first | refine W.seq ?_ | refine W.region ?_)
  refine W.cut (fun z : ByteArray => [(0, .string z)]) (fun z w => sbytes z = (sbytes s).dropWhile p ∧ Sat G M I w) ?_ ?_
  ·
    repeat (first | refine W.seq ?_ | refine W.region ?_)
    refine W.block ?_
    repeat (first | refine W.seq ?_ | refine W.region ?_)
    refine W.loop (F := fun z : ByteArray => [(0, .string z), (1, ptr b 0)]) (J := fun z w => (sbytes z).dropWhile p = (sbytes s).dropWhile p ∧ z.size ≤ s.size ∧ Sat G M I w) (m := fun z => z.size) s (by repeat first | exact Sub.nil | refine Sub.cons rfl ?_) ⟨rfl, by omega, hs⟩ ?_
    rintro z w1 ⟨hz, hzs, hs1⟩
    repeat (first | refine W.seq ?_ | refine W.region ?_)
    refine RL.p rfl rfl rfl (PV_move rfl rfl) ?_
    refine RL.p rfl rfl rfl (PV_lens rfl Tryz.underlying9 rfl) ?_
    refine RL.p rfl rfl rfl (PV_gtr rfl rfl rfl) ?_
    refine RL.done (nxt ?_)
    repeat (first | refine W.seq ?_ | refine W.region ?_)
    refine W.cond rfl (fun h1 => ?_) (fun h1 => ?_)
    ·
      have hz1 : 0 < z.size := by have := of_decide_eq_true h1; omega
      obtain ⟨c, hx⟩ : ∃ c, (sbytes z)[0]? = some c := ⟨_, List.getElem?_eq_getElem (by rw [length_sbytes]; exact hz1)⟩
      have hzc : sbytes z = c :: (sbytes z).drop 1 := by
        cases hzz : sbytes z with
        | nil => rw [hzz] at hx; cases hx
        | cons d r => rw [hzz] at hx; simp at hx; subst hx; rfl
      refine  W.skip (nxt ?_)
      repeat (first | refine W.seq ?_ | refine W.region ?_)
      refine W.block ?_
      repeat (first | refine W.seq ?_ | refine W.region ?_)
      refine RL.p rfl rfl rfl (PV_move rfl rfl) ?_
      refine RL.p rfl rfl rfl (PV_move rfl rfl) ?_
      refine RL.p rfl rfl rfl (PV_indexs 0 rfl Tryz.underlying9 rfl rfl rfl hx) ?_
      refine RL.e rfl rfl rfl (K2 rfl fn176 rfl rfl (C176 hm (hc c) hs1)) ?_
      rintro _ w2 ⟨rfl, hs2⟩
      refine RL.p rfl rfl rfl (PV_not rfl rfl) ?_
      refine RL.done (nxt ?_)
      repeat (first | refine W.seq ?_ | refine W.region ?_)
      refine W.cond rfl (fun h2 => ?_) (fun h2 => ?_)
      ·
        repeat (first | refine W.seq ?_ | refine W.region ?_)
        refine W.exit (cut_end (F := (fun z : ByteArray => [(0, .string z)])) (J := (fun z w => sbytes z = (sbytes s).dropWhile p ∧ Sat G M I w)) z ?_ ?_)
        · repeat first | exact Sub.nil | refine Sub.cons rfl ?_
        · exact ⟨by rw [← hz, hzc, List.dropWhile_cons, show p c = false by simpa using h2]; rfl, hs2⟩
      refine W.skip (nxt ?_)
      repeat (first | refine W.seq ?_ | refine W.region ?_)
      refine RL.p rfl rfl rfl (PV_move rfl rfl) ?_
      refine RL.p rfl rfl rfl (PV_slices (p := 1) (r := z.size) rfl Tryz.underlying9 rfl (.inr ⟨_, rfl, _, _, rfl, rfl⟩) (.inl ⟨rfl, rfl⟩) hz1 (Nat.le_refl _)) ?_
      refine RL.p rfl rfl rfl (PV_assign rfl rfl) ?_
      refine RL.done (round_end (z.extract 1 z.size) ?_ ?_ ?_)
      · repeat first | exact Sub.nil | refine Sub.cons rfl ?_
      · exact ⟨by rw [← hz, hzc, List.dropWhile_cons, show p c = true by simpa using h2, sbytes_extract, List.take_of_length_le (by simp [length_sbytes])]; rfl, by rw [← length_sbytes, sbytes_extract] ; simp [length_sbytes]; omega, hs2⟩
      · rw [← length_sbytes (z.extract 1 z.size), sbytes_extract]; simp [length_sbytes]; omega
    repeat (first | refine W.seq ?_ | refine W.region ?_)
    refine W.exit (cut_end (F := (fun z : ByteArray => [(0, .string z)])) (J := (fun z w => sbytes z = (sbytes s).dropWhile p ∧ Sat G M I w)) z ?_ ?_)
    · repeat first | exact Sub.nil | refine Sub.cons rfl ?_
    · exact ⟨by rw [← hz]; rw [show sbytes z = [] from List.eq_nil_of_length_eq_zero (by rw [length_sbytes]; have := of_decide_eq_false h1; omega)]; rfl, hs1⟩
  rintro z w100 ⟨hz, hs100⟩
  refine nxt ?_
  repeat (first | refine W.seq ?_ | refine W.region ?_)
  refine RL.p rfl rfl rfl (PV_move rfl rfl) ?_
  refine RL.p rfl rfl rfl (PV_assign rfl rfl) ?_
  refine RL.done (nxt ?_)
  repeat (first | refine W.seq ?_ | refine W.region ?_)
  exact W.ret (ret_tmp rfl rfl ⟨_, rfl, ⟨_, rfl, hz⟩, hs100⟩)

theorem C164 {b : Nat} {cs : List Value} {s : ByteArray} {p : UInt8 → Bool} (hm : (b, cs, 235) ∈ M) (hc : ∀ c : UInt8, cs[c.toNat]? = some (.bool (p c))) (hsz : s.size ≤ 2 ^ 40) (hs : Sat G M I w) : Calls Tryz.prog 164 #[.string s, ptr b 0] w (Ret fun r w' => (∃ t, r = .string t ∧ sbytes t = trimR p (sbytes s)) ∧ Sat G M I w') := by
  refine enter2 Tryz.func164 rfl Tryz.ntmps164 rfl ?_
  repeat (first | refine W.seq ?_ | refine W.region ?_)
  refine RL.p rfl rfl rfl (PV_assign rfl rfl) ?_
  refine RL.done (nxt ?_)
  repeat (first | refine W.seq ?_ | refine W.region ?_)
  refine W.cut (fun z : ByteArray => [(0, .string z)]) (fun z w => sbytes z = trimR p (sbytes s) ∧ Sat G M I w) ?_ ?_
  ·
    repeat (first | refine W.seq ?_ | refine W.region ?_)
    refine W.block ?_
    repeat (first | refine W.seq ?_ | refine W.region ?_)
    refine W.loop (F := fun z : ByteArray => [(0, .string z), (1, ptr b 0)]) (J := fun z w => trimR p (sbytes z) = trimR p (sbytes s) ∧ z.size ≤ s.size ∧ Sat G M I w) (m := fun z => z.size) s (by repeat first | exact Sub.nil | refine Sub.cons rfl ?_) ⟨rfl, by omega, hs⟩ ?_
    rintro z w1 ⟨hz, hzs, hs1⟩
    repeat (first | refine W.seq ?_ | refine W.region ?_)
    refine RL.p rfl rfl rfl (PV_move rfl rfl) ?_
    refine RL.p rfl rfl rfl (PV_lens rfl Tryz.underlying9 rfl) ?_
    refine RL.p rfl rfl rfl (PV_gtr rfl rfl rfl) ?_
    refine RL.done (nxt ?_)
    repeat (first | refine W.seq ?_ | refine W.region ?_)
    refine W.cond rfl (fun h1 => ?_) (fun h1 => ?_)
    ·
      have hz1 : 0 < z.size := by have := of_decide_eq_true h1; omega
      obtain ⟨c, hx⟩ : ∃ c, (sbytes z)[z.size - 1]? = some c := ⟨_, List.getElem?_eq_getElem (by rw [length_sbytes]; omega)⟩
      have hzl : (sbytes z).getLast? = some c := by rw [List.getLast?_eq_getElem?, length_sbytes]; exact hx
      have hzx : sbytes (z.extract 0 (z.size - 1)) = (sbytes z).dropLast := by rw [sbytes_extract, List.dropLast_eq_take, length_sbytes]; rfl
      refine  W.skip (nxt ?_)
      repeat (first | refine W.seq ?_ | refine W.region ?_)
      refine W.block ?_
      repeat (first | refine W.seq ?_ | refine W.region ?_)
      refine RL.p rfl rfl rfl (PV_move rfl rfl) ?_
      refine RL.p rfl rfl rfl (PV_move rfl rfl) ?_
      refine RL.p rfl rfl rfl (PV_move rfl rfl) ?_
      refine RL.p rfl rfl rfl (PV_lens rfl Tryz.underlying9 rfl) ?_
      refine RL.p rfl rfl rfl (PV_sub rfl rfl rfl (by omega)) ?_
      refine RL.p rfl rfl rfl (PV_indexs (z.size - 1) rfl Tryz.underlying9 rfl rfl (by omega) hx) ?_
      refine RL.e rfl rfl rfl (K2 rfl fn176 rfl rfl (C176 hm (hc c) hs1)) ?_
      rintro _ w2 ⟨rfl, hs2⟩
      refine RL.p rfl rfl rfl (PV_not rfl rfl) ?_
      refine RL.done (nxt ?_)
      repeat (first | refine W.seq ?_ | refine W.region ?_)
      refine W.cond rfl (fun h2 => ?_) (fun h2 => ?_)
      ·
        repeat (first | refine W.seq ?_ | refine W.region ?_)
        refine W.exit (cut_end (F := (fun z : ByteArray => [(0, .string z)])) (J := (fun z w => sbytes z = trimR p (sbytes s) ∧ Sat G M I w)) z ?_ ?_)
        · repeat first | exact Sub.nil | refine Sub.cons rfl ?_
        · exact ⟨by rw [← hz, trimR_stop hzl (by simpa using h2)], hs2⟩
      refine W.skip (nxt ?_)
      repeat (first | refine W.seq ?_ | refine W.region ?_)
      refine RL.p rfl rfl rfl (PV_move rfl rfl) ?_
      refine RL.p rfl rfl rfl (PV_move rfl rfl) ?_
      refine RL.p rfl rfl rfl (PV_lens rfl Tryz.underlying9 rfl) ?_
      refine RL.p rfl rfl rfl (PV_sub rfl rfl rfl (by omega)) ?_
      refine RL.p rfl rfl rfl (PV_slices (p := 0) (r := z.size - 1) rfl Tryz.underlying9 rfl (.inl ⟨rfl, rfl⟩) (.inr ⟨_, rfl, _, _, rfl, by omega⟩) (Nat.zero_le _) (by omega)) ?_
      refine RL.p rfl rfl rfl (PV_assign rfl rfl) ?_
      refine RL.done (round_end (z.extract 0 (z.size - 1)) ?_ ?_ ?_)
      · repeat first | exact Sub.nil | refine Sub.cons rfl ?_
      · exact ⟨by rw [← hz, trimR_go hzl (by simpa using h2), hzx], by rw [← length_sbytes, hzx] ; simp [length_sbytes]; omega, hs2⟩
      · rw [← length_sbytes (z.extract 0 (z.size - 1)), hzx]; simp [length_sbytes]; omega
    repeat (first | refine W.seq ?_ | refine W.region ?_)
    refine W.exit (cut_end (F := (fun z : ByteArray => [(0, .string z)])) (J := (fun z w => sbytes z = trimR p (sbytes s) ∧ Sat G M I w)) z ?_ ?_)
    · repeat first | exact Sub.nil | refine Sub.cons rfl ?_
    · exact ⟨by rw [← hz]; rw [show sbytes z = [] from List.eq_nil_of_length_eq_zero (by rw [length_sbytes]; have := of_decide_eq_false h1; omega)]; rfl, hs1⟩
  rintro z w100 ⟨hz, hs100⟩
  refine nxt ?_
  repeat (first | refine W.seq ?_ | refine W.region ?_)
  refine RL.p rfl rfl rfl (PV_move rfl rfl) ?_
  refine RL.p rfl rfl rfl (PV_assign rfl rfl) ?_
  refine RL.done (nxt ?_)
  repeat (first | refine W.seq ?_ | refine W.region ?_)
  exact W.ret (ret_tmp rfl rfl ⟨_, rfl, ⟨_, rfl, hz⟩, hs100⟩)

theorem C138 {s q : ByteArray} (h128 : ∀ c ∈ sbytes q, c.toNat < 128) (hq1 : 1 < q.size) (hq2 : q.size ≤ 2 ^ 20) (hsz : s.size ≤ 2 ^ 40) (hs : Sat G M I w) : Calls Tryz.prog 138 #[.string s, .string q] w (Ret fun r w' => (∃ t, r = .string t ∧ sbytes t = trimB (sbytes q).contains (sbytes s)) ∧ Sat G M I w') := by
  refine enter2 Tryz.func138 rfl Tryz.ntmps138 rfl ?_
  repeat (first | refine W.seq ?_ | refine W.region ?_)
  refine RL.p rfl rfl rfl (PV_assign rfl rfl) ?_
  refine RL.done (nxt ?_)
  repeat (first | refine W.seq ?_ | refine W.region ?_)
  refine RL.p rfl rfl rfl (PV_move rfl rfl) ?_
  refine RL.p rfl rfl rfl (PV_eqs rfl rfl rfl) ?_
  refine RL.p rfl rfl rfl (PV_move rfl rfl) ?_
  refine RL.split 9 rfl (fun g1 => ?_) (fun g1 => ?_)
  ·
    refine RL.gk rfl rfl rfl rfl g1 rfl rfl rfl ?_
    refine RL.gk rfl rfl rfl rfl g1 rfl rfl rfl ?_
    refine RL.p rfl rfl rfl (PV_pickT rfl rfl g1 rfl) ?_
    refine RL.done (nxt ?_)
    repeat (first | refine W.seq ?_ | refine W.region ?_)
    refine W.cond rfl (fun h1 => ?_) (fun h1 => ?_)
    rotate_left
    · cases h1
    repeat (first | refine W.seq ?_ | refine W.region ?_)
    refine RL.p rfl rfl rfl (PV_move rfl rfl) ?_
    refine RL.p rfl rfl rfl (PV_assign rfl rfl) ?_
    refine RL.done (nxt ?_)
    repeat (first | refine W.seq ?_ | refine W.region ?_)
    exact W.ret (ret_tmp rfl rfl ⟨_, rfl, ⟨s, rfl, by rw [beq_empty] at g1; rw [sbytes_empty (of_decide_eq_true g1)]; rfl⟩, hs⟩)
  ·
    refine RL.gp rfl rfl rfl rfl g1 rfl rfl rfl (PV_move rfl rfl) ?_
    refine RL.gp rfl rfl rfl rfl g1 rfl rfl rfl (PV_eqs rfl rfl rfl) ?_
    refine RL.p rfl rfl rfl (PV_pickF rfl rfl g1 rfl) ?_
    refine RL.done (nxt ?_)
    repeat (first | refine W.seq ?_ | refine W.region ?_)
    refine W.cond rfl (fun h1 => ?_) (fun h1 => ?_)
    · rw [beq_empty] at h1; exact absurd (of_decide_eq_true h1) (by omega)
    refine W.skip (nxt ?_)
    repeat (first | refine W.seq ?_ | refine W.region ?_)
    refine RL.p rfl rfl rfl (PV_move rfl rfl) ?_
    refine RL.p rfl rfl rfl (PV_lens rfl Tryz.underlying9 rfl) ?_
    refine RL.p rfl rfl rfl (PV_eqi rfl rfl rfl) ?_
    refine RL.p rfl rfl rfl (PV_move rfl rfl) ?_
    refine RL.split 17 rfl (fun g2 => ?_) (fun g2 => ?_)
    · exact absurd (of_decide_eq_true g2) (by omega)
    ·
      refine RL.gk rfl rfl rfl rfl g2 rfl rfl rfl ?_
      refine RL.gk rfl rfl rfl rfl g2 rfl rfl rfl ?_
      refine RL.gk rfl rfl rfl rfl g2 rfl rfl rfl ?_
      refine RL.p rfl rfl rfl (PV_pickF rfl rfl g2 rfl) ?_
      refine RL.done (nxt ?_)
      repeat (first | refine W.seq ?_ | refine W.region ?_)
      refine W.cond rfl (fun h2 => ?_) (fun h2 => ?_)
      · cases h2
      refine W.skip (nxt ?_)
      repeat (first | refine W.seq ?_ | refine W.region ?_)
      refine RL.p rfl rfl rfl (PV_move rfl rfl) ?_
      refine RL.e rfl rfl rfl (K1 rfl fn162 rfl (C162 h128 hq2 hs)) ?_
      rintro _ w1 ⟨rfl, hs1⟩
      refine RL.p rfl rfl rfl (PV_move rfl rfl) ?_
      refine RL.p rfl rfl rfl (PV_extract rfl rfl rfl) ?_
      refine RL.p rfl rfl rfl (PV_extract rfl rfl rfl) ?_
      refine RL.e rfl rfl rfl (EF_allocA rfl zr235 hs1) ?_
      rintro _ w2 ⟨b5, rfl, hs2⟩
      refine RL.e0 rfl rfl (EF_storeA (cs := zl235) rfl rfl rfl sz235 (length_setC _) (one1_setC _) hs2 (by first | exact u0 | exact u1 | exact u2 | exact u3 | exact u4 | exact u5 | exact u0.app | exact u1.app | exact u2.app | exact u3.app)) ?_
      rintro _ w3 hs3
      refine RL.p rfl rfl rfl (PV_assign rfl rfl) ?_
      refine RL.done (nxt ?_)
      repeat (first | refine W.seq ?_ | refine W.region ?_)
      refine RL.p rfl rfl rfl (PV_move rfl rfl) ?_
      refine RL.done (nxt ?_)
      repeat (first | refine W.seq ?_ | refine W.region ?_)
      refine W.cond rfl (fun h3 => ?_) (fun h3 => ?_)
      rotate_left
      · cases h3
      repeat (first | refine W.seq ?_ | refine W.region ?_)
      refine RL.p rfl rfl rfl (PV_move rfl rfl) ?_
      refine RL.e rfl rfl rfl (K2 rfl fn164 rfl rfl (C164 m0 (setC_get _) hsz hs3)) ?_
      rintro _ w4 ⟨⟨t1, rfl, ht1⟩, hs4⟩
      refine RL.e rfl rfl rfl (K2 rfl fn163 rfl rfl (C163 m0 (setC_get _) (by rw [← length_sbytes, ht1]; exact Nat.le_trans (length_trimR _ _) (by rw [length_sbytes]; exact hsz)) hs4)) ?_
      rintro _ w5 ⟨⟨t2, rfl, ht2⟩, hs5⟩
      refine RL.p rfl rfl rfl (PV_assign rfl rfl) ?_
      refine RL.done (nxt ?_)
      repeat (first | refine W.seq ?_ | refine W.region ?_)
      exact W.ret (ret_tmp rfl rfl ⟨_, rfl, ⟨_, rfl, by rw [ht2, ht1]; rfl⟩, hs5.tail⟩)

theorem C104 {s : ByteArray} (hsz : s.size ≤ 2 ^ 40) (hs : Sat G M I w) : Calls Tryz.prog 104 #[.string s] w (Ret fun r w' => r = .bool (nameB s) ∧ Sat G M I w') := by
  refine enter1 Tryz.func104 rfl Tryz.ntmps104 rfl ?_
  repeat (first | refine W.seq ?_ | refine W.region ?_)
  refine RL.p rfl rfl rfl (PV_assign rfl rfl) ?_
  refine RL.done (nxt ?_)
  repeat (first | refine W.seq ?_ | refine W.region ?_)
  refine RL.p rfl rfl rfl (PV_move rfl rfl) ?_
  refine RL.p rfl rfl rfl (PV_nes rfl rfl rfl) ?_
  refine RL.p rfl rfl rfl (PV_move rfl rfl) ?_
  refine RL.split 5 rfl (fun g1 => ?_) (fun g1 => ?_)
  ·
    refine RL.gp rfl rfl rfl rfl g1 rfl rfl rfl (PV_move rfl rfl) ?_
    refine RL.gp rfl rfl rfl rfl g1 rfl rfl rfl (PV_lens rfl Tryz.underlying9 rfl) ?_
    refine RL.gp rfl rfl rfl rfl g1 rfl rfl rfl (PV_leq rfl rfl rfl) ?_
    refine RL.p rfl rfl rfl (PV_pickT rfl rfl g1 rfl) ?_
    refine RL.p rfl rfl rfl (PV_move rfl rfl) ?_
    refine RL.split 10 rfl (fun g2 => ?_) (fun g2 => ?_)
    ·
      refine RL.gp rfl rfl rfl rfl g2 rfl rfl rfl (PV_move rfl rfl) ?_
      refine RL.ge rfl rfl rfl rfl g2 rfl rfl rfl (K2 rfl fn138 rfl rfl (C138 (by decide) (by decide) (by decide) hsz hs)) ?_
      rintro _ w1 ⟨⟨t1, rfl, ht1⟩, hs1⟩
      refine RL.gp rfl rfl rfl rfl g2 rfl rfl rfl (PV_eqs rfl rfl rfl) ?_
      refine RL.p rfl rfl rfl (PV_pickT rfl rfl g2 rfl) ?_
      refine RL.p rfl rfl rfl (PV_assign rfl rfl) ?_
      refine RL.done (nxt ?_)
      repeat (first | refine W.seq ?_ | refine W.region ?_)
      exact W.ret (ret_tmp rfl rfl ⟨_, rfl, name_ok g1 g2 ht1, hs1⟩)
    ·
      refine RL.gk rfl rfl rfl rfl g2 rfl rfl rfl ?_
      refine RL.gk rfl rfl rfl rfl g2 rfl rfl rfl ?_
      refine RL.gk rfl rfl rfl rfl g2 rfl rfl rfl ?_
      refine RL.p rfl rfl rfl (PV_pickF rfl rfl g2 rfl) ?_
      refine RL.p rfl rfl rfl (PV_assign rfl rfl) ?_
      refine RL.done (nxt ?_)
      repeat (first | refine W.seq ?_ | refine W.region ?_)
      exact W.ret (ret_tmp rfl rfl ⟨_, rfl, name_no2 g2, hs⟩)
  ·
    refine RL.gk rfl rfl rfl rfl g1 rfl rfl rfl ?_
    refine RL.gk rfl rfl rfl rfl g1 rfl rfl rfl ?_
    refine RL.gk rfl rfl rfl rfl g1 rfl rfl rfl ?_
    refine RL.p rfl rfl rfl (PV_pickF rfl rfl g1 rfl) ?_
    refine RL.p rfl rfl rfl (PV_move rfl rfl) ?_
    refine RL.gk rfl rfl rfl rfl rfl rfl rfl rfl ?_
    refine RL.gk rfl rfl rfl rfl rfl rfl rfl rfl ?_
    refine RL.gk rfl rfl rfl rfl rfl rfl rfl rfl ?_
    refine RL.p rfl rfl rfl (PV_pickF rfl rfl rfl rfl) ?_
    refine RL.p rfl rfl rfl (PV_assign rfl rfl) ?_
    refine RL.done (nxt ?_)
    repeat (first | refine W.seq ?_ | refine W.region ?_)
    exact W.ret (ret_tmp rfl rfl ⟨_, rfl, name_no1 g1, hs⟩)

end Go.Proofs.YtecbpmgfikgoaaaGreatDoor
end
section
set_option linter.unusedVariables false
set_option linter.unusedSimpArgs false
namespace Go.Proofs.YtecbpmgfikgoaaaGreatDoor
open Go Go.RowKit
structure Tgt where
  name : ByteArray
  size : Int
  sum : List UInt8
  hw : ByteArray
  ctr : Int
  ecu : ByteArray
  h : sum.length = 32
def tcells (t : Tgt) : List Value := .string t.name :: .int .i64 t.size :: (bcells t.sum ++ [.string t.hw, .int .i64 t.ctr, .string t.ecu])
theorem length_tcells (t : Tgt) : (tcells t).length = 37 := by simp [tcells, length_bcells, t.h]
theorem one1_tcells (t : Tgt) : one1 (tcells t) = true := by simp [tcells, one1, Value.oneCell', bcells, u8v]
theorem tc_0 {t : Tgt} : (tcells t)[0]? = some (.string t.name) := rfl
theorem tc_1 {t : Tgt} : (tcells t)[1]? = some (.int .i64 t.size) := rfl
theorem tc_34 {t : Tgt} : (tcells t)[34]? = some (.string t.hw) := by simp [tcells, List.getElem?_append_right, length_bcells, t.h]
theorem tc_35 {t : Tgt} : (tcells t)[35]? = some (.int .i64 t.ctr) := by simp [tcells, List.getElem?_append_right, length_bcells, t.h]
theorem tc_36 {t : Tgt} : (tcells t)[36]? = some (.string t.ecu) := by simp [tcells, List.getElem?_append_right, length_bcells, t.h]
theorem tc_sum {t : Tgt} : part (tcells t) 2 32 = bcells t.sum := by
  simp only [part, tcells, List.drop_succ_cons, List.drop_zero]
  rw [List.take_append_of_le_length (by simp [length_bcells, t.h]), List.take_of_length_le (by simp [length_bcells, t.h])]
attribute [irreducible] tcells
def Tgt.ok (t : Tgt) : Prop := t.name.size ≤ 2 ^ 20 ∧ t.hw.size ≤ 2 ^ 20 ∧ t.ecu.size ≤ 2 ^ 20
def lcells (L : List Tgt) : List Value := L.flatMap tcells
theorem length_lcells (L : List Tgt) : (lcells L).length = L.length * 37 := by
  induction L with
  | nil => rfl
  | cons t L ih => simp [lcells, length_tcells] at ih ⊢; omega
theorem one1_lcells (L : List Tgt) : one1 (lcells L) = true := by
  induction L with
  | nil => rfl
  | cons t L ih => simp only [lcells, List.flatMap_cons, one1_append, one1_tcells, Bool.true_and] at ih ⊢; exact ih
theorem lcells_append (L K : List Tgt) : lcells (L ++ K) = lcells L ++ lcells K := by simp [lcells]
theorem lcells_one (t : Tgt) : lcells [t] = tcells t := by simp [lcells]
theorem part_lcells {L : List Tgt} {i : Nat} {t : Tgt} (h : L[i]? = some t) : part (lcells L) (i * 37) 37 = tcells t := by
  have hi := (List.getElem?_eq_some_iff.1 h).1
  have hL : L = L.take i ++ t :: L.drop (i + 1) := by
    have := (List.getElem?_eq_some_iff.1 h).2
    rw [← this, List.getElem_cons_drop, List.take_append_drop]
  have hl : (lcells (L.take i)).length = i * 37 := by rw [length_lcells, List.length_take, Nat.min_eq_left (by omega)]
  conv => lhs; rw [hL]
  rw [lcells_append, part, ← hl, List.drop_left, show t :: L.drop (i + 1) = [t] ++ L.drop (i + 1) from rfl, lcells_append, lcells_one, List.take_append_of_le_length (by rw [length_tcells]; exact Nat.le_refl _), List.take_of_length_le (by rw [length_tcells]; exact Nat.le_refl _)]
def targetB (t : Tgt) : Bool := nameB t.name && (decide (0 ≤ t.size) && (decide (t.size ≤ 512) && (nameB t.hw && (isNumB t.ctr && ((t.ecu.toList == (⟨#[]⟩ : ByteArray).toList) || nameB t.ecu)))))
def risesB (a b : Tgt) : Bool := Op.bytesLess a.name.toList b.name.toList || ((a.name.toList == b.name.toList) && Op.bytesLess a.ecu.toList b.ecu.toList)
/-- May a list of targets be laid? -/
def risB (L : List Tgt) (i : Nat) : Bool := match L[i]?, L[i + 1]? with
  | some a, some b => risesB a b
  | _, _ => true
end Go.Proofs.YtecbpmgfikgoaaaGreatDoor
end
