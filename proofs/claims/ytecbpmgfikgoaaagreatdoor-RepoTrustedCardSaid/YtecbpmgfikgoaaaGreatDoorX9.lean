/- Walks of functions 120 131 80 78 82 85: what each call gives back, and that it writes nothing of anybody else's. Conditions: as each theorem says. -/
import Derived.Test.YtecbpmgfikgoaaaGreatDoorX8
set_option linter.unusedVariables false
set_option linter.unusedSimpArgs false
set_option maxRecDepth 8000
set_option maxHeartbeats 4000000
namespace Go.Proofs.YtecbpmgfikgoaaaGreatDoor
open Go Go.RowKit
variable {G w : World} {M : List Chunk} {I : Imm}

theorem Sat.sw3 {a b c : Chunk} (h : Sat G (a :: b :: c :: M) I w) : Sat G (c :: a :: b :: M) I w := h.perm (by classical exact List.perm_iff_count.2 fun a => by simp only [List.count_cons]; ac_rfl)
theorem C119n {xb : Nat} {v : Value} {x : Int} {l : List UInt8} (h0 : 0 ≤ x) (h1 : x < 2 ^ 40) (hl : (nums [x] ++ l).length ≤ 2 ^ 40) (hv : SlB I v (nums [x] ++ l)) (hs : Sat G ((xb, [v, .bool false], 209) :: M) I w) : Calls Tryz.prog 119 #[ptr xb 0] w (Ret fun r w' => ∃ J v', Le I J ∧ r = .int .i64 x ∧ SlB J v' l ∧ Sat G ((xb, [v', .bool false], 209) :: M) J w') := by
  obtain ⟨u, rfl⟩ : ∃ u : Nat, x = (u : Int) := ⟨x.toNat, by omega⟩
  rw [nums_cons, nums_nil, List.append_nil, clamp_nat (by omega)] at hl hv
  exact C119 (by omega) hl hv hs
theorem C118n {v : Value} {x : Int} {l : List UInt8} (h0 : 0 ≤ x) (h1 : x < 2 ^ 40) (hl : (nums [x] ++ l).length ≤ 2 ^ 40) (hv : SlB I v (nums [x] ++ l)) (hs : Sat G M I w) : Calls Tryz.prog 118 #[v, .int .i64 x] w (Ret fun r w' => ∃ J xb v', Le I J ∧ r = ptr xb 0 ∧ SlB J v' l ∧ Sat G ((xb, [v', .bool false], 209) :: M) J w') := by
  obtain ⟨u, rfl⟩ : ∃ u : Nat, x = (u : Int) := ⟨x.toNat, by omega⟩
  rw [nums_cons, nums_nil, List.append_nil, clamp_nat (by omega)] at hl hv
  exact C118 (by omega) hl hv hs
def hR (h : List UInt8) (i : Nat) : List UInt8 := if i = 0 then h else []
/-- A target's cells, part by part. -/
def tc (n : ByteArray) (z : Int) (s : List UInt8) (h : ByteArray) (c : Int) (e : ByteArray) : List Value := .string n :: .int .i64 z :: (bcells s ++ [.string h, .int .i64 c, .string e])
theorem tcells_tc (t : Tgt) : tcells t = tc t.name t.size t.sum t.hw t.ctr t.ecu := by unfold tcells tc; rfl
theorem length_tc {n : ByteArray} {z : Int} {s : List UInt8} {h : ByteArray} {c : Int} {e : ByteArray} (hs : s.length = 32) : (tc n z s h c e).length = 37 := by simp [tc, length_bcells, hs]
theorem one1_tc {n : ByteArray} {z : Int} {s : List UInt8} {h : ByteArray} {c : Int} {e : ByteArray} : one1 (tc n z s h c e) = true := by simp [tc, one1, Value.oneCell', bcells, u8v]
theorem tc_z {n : ByteArray} {z x : Int} {s : List UInt8} {h : ByteArray} {c : Int} {e : ByteArray} : (tc n z s h c e).set 1 (.int .i64 x) = tc n x s h c e := rfl
theorem tc_s {n : ByteArray} {z : Int} {s s' : List UInt8} {h : ByteArray} {c : Int} {e : ByteArray} (h1 : s.length = 32) (h2 : s'.length = 32) : splice (tc n z s h c e) 2 (bcells s') = tc n z s' h c e := by
  have e1 : (bcells s).length = 32 := by rw [length_bcells, h1]
  have e2 : (bcells s').length = 32 := by rw [length_bcells, h2]
  simp only [splice, tc, e2, List.take_succ_cons, List.take_zero, List.drop_succ_cons, List.cons_append, List.nil_append]
  rw [List.drop_append, e1, List.drop_of_length_le (by omega)]
  rfl
theorem tc_34' {n : ByteArray} {z : Int} {s : List UInt8} {h x : ByteArray} {c : Int} {e : ByteArray} (h1 : s.length = 32) : (tc n z s h c e).set 34 (.string x) = tc n z s x c e := by
  have e1 : (bcells s).length = 32 := by rw [length_bcells, h1]
  simp only [tc, List.set_cons_succ]
  rw [List.set_append_right _ _ (by omega), e1]
  rfl
theorem tc_35' {n : ByteArray} {z : Int} {s : List UInt8} {h : ByteArray} {c x : Int} {e : ByteArray} (h1 : s.length = 32) : (tc n z s h c e).set 35 (.int .i64 x) = tc n z s h x e := by
  have e1 : (bcells s).length = 32 := by rw [length_bcells, h1]
  simp only [tc, List.set_cons_succ]
  rw [List.set_append_right _ _ (by omega), e1]
  rfl
theorem tc_36' {n : ByteArray} {z : Int} {s : List UInt8} {h : ByteArray} {c : Int} {e x : ByteArray} (h1 : s.length = 32) : (tc n z s h c e).set 36 (.string x) = tc n z s h c x := by
  have e1 : (bcells s).length = 32 := by rw [length_bcells, h1]
  simp only [tc, List.set_cons_succ]
  rw [List.set_append_right _ _ (by omega), e1]
  rfl
def z32 : List UInt8 := List.replicate 32 0
theorem fill_tc {n : ByteArray} : fillL [(0, 1), (1, 1), (2, 32), (34, 1), (35, 1), (36, 1)] zl26 ([(0, Value.string n)].map fun x => (x.1, x.2.cells.toList)) = some (tc n 0 z32 ByteArray.empty 0 ByteArray.empty) := rfl
/-- What is left of the roles. -/
def rolesR (hh : Nat → List UInt8) (i : Nat) : List UInt8 := ((List.range 4).drop i).flatMap fun j => keysE (hh j)
theorem rolesR_zero (hh : Nat → List UInt8) : rolesR hh 0 = rolesE hh 4 := by unfold rolesR rolesE; rfl
theorem rolesR_succ (hh : Nat → List UInt8) {i : Nat} (hi : i < 4) : rolesR hh i = nums [1] ++ (hh i ++ (nums [1] ++ rolesR hh (i + 1))) := by
  have h : rolesR hh i = keysE (hh i) ++ rolesR hh (i + 1) := by
    rcases (by omega : i = 0 ∨ i = 1 ∨ i = 2 ∨ i = 3) with rfl | rfl | rfl | rfl <;> rfl
  rw [h, keysE, List.append_assoc, List.append_assoc]
theorem rolesR_four (hh : Nat → List UInt8) : rolesR hh 4 = [] := rfl
theorem len_rolesR {hh : Nat → List UInt8} (h32 : ∀ j, j < 4 → (hh j).length = 32) : ∀ (k i : Nat), i + k = 4 → (rolesR hh i).length ≤ 44 * k
  | 0, i, h => by
    obtain rfl : i = 4 := by omega
    simp [rolesR_four]
  | k + 1, i, h => by
    have a := len_rolesR h32 k (i + 1) (by omega)
    have b := len_num (x := 1) (by decide) (by decide)
    have c := h32 i (by omega)
    rw [rolesR_succ hh (by omega)]
    simp only [List.length_append]
    omega

theorem target_split (t : Tgt) (l : List UInt8) : targetE t ++ l = rowB (sbytes t.name) ++ (nums [t.size] ++ (t.sum ++ (rowB (sbytes t.hw) ++ (nums [t.ctr] ++ (rowB (sbytes t.ecu) ++ l))))) := by simp only [targetE, List.append_assoc]
theorem time_split (v e sn : Int) (h : List UInt8) : nums [2] ++ timeE v e sn h = nums [2] ++ (nums [v] ++ (nums [e] ++ (nums [sn] ++ (h ++ [])))) := by simp only [timeE, nums_cons, nums_nil, List.append_assoc, List.append_nil, List.nil_append]
theorem root_split (v e : Int) (hh : Nat → List UInt8) : nums [1] ++ rootE v e hh = nums [1] ++ (nums [v] ++ (nums [e] ++ rolesR hh 0)) := by simp only [rootE, rolesR_zero, nums_cons, nums_nil, List.append_assoc, List.append_nil, List.nil_append]
theorem tm_s {a b c : Value} {s h : List UInt8} (h1 : s.length = 32) (h2 : h.length = 32) : splice (a :: b :: c :: bcells s) 3 (bcells h) = a :: b :: c :: bcells h := by
  have e1 : (bcells s).length = 32 := by rw [length_bcells, h1]
  have e2 : (bcells h).length = 32 := by rw [length_bcells, h2]
  simp only [splice, e2, List.take_succ_cons, List.take_zero, List.drop_succ_cons, List.cons_append, List.nil_append]
  rw [List.drop_of_length_le (by omega), List.append_nil]
theorem updK_all {Q : Nat → Value → Prop} {ks : Nat → Value} {i : Nat} {x : Value} (h : ∀ j, j < i → Q j (ks j)) (hx : Q i x) : ∀ j, j < i + 1 → Q j (updK ks i x j) := fun j hj => by
  unfold updK
  split
  · next he => rw [he]; exact hx
  · exact h j (by omega)

theorem Sat.mid3 {a b c : Chunk} {L : List Chunk} (h : Sat G (a :: b :: c :: (L ++ M)) I w) : Sat G (L ++ a :: b :: c :: M) I w := h.perm (by classical exact List.perm_iff_count.2 fun a => by simp only [List.count_append, List.count_cons]; ac_rfl)
theorem Sat.unmid2 {a : Chunk} {L L2 : List Chunk} (h : Sat G (L2 ++ (L ++ a :: M)) I w) : Sat G (a :: (L2 ++ (L ++ M))) I w := h.perm (by classical exact List.perm_iff_count.2 fun a => by simp only [List.count_append, List.count_cons]; ac_rfl)
theorem Sat.remid2 {a : Chunk} {L L2 : List Chunk} (h : Sat G (a :: (L2 ++ (L ++ M))) I w) : Sat G (L2 ++ (L ++ a :: M)) I w := h.perm (by classical exact List.perm_iff_count.2 fun a => by simp only [List.count_append, List.count_cons]; ac_rfl)
theorem snap_split (v e : Int) (s : ByteArray) (x : Int) : nums [3] ++ snapE v e s x = nums [3] ++ (nums [v] ++ (nums [e] ++ (nums [1] ++ (rowB (sbytes s) ++ (nums [x] ++ []))))) := by simp only [snapE, pinE, nums_cons, nums_nil, List.append_assoc, List.append_nil, List.nil_append]
theorem targets_split (s : ByteArray) (v e : Int) (K : List Tgt) : nums [4] ++ targetsE s v e K = nums [4] ++ (rowB (sbytes s) ++ (nums [v] ++ (nums [e] ++ (nums [(K.length : Int)] ++ (K.flatMap targetE ++ (nums [0] ++ [])))))) := by simp only [targetsE, tgtsE, nums_cons, nums_nil, List.append_assoc, List.append_nil, List.nil_append]
def hS (cs : List Value) (i : Nat) : List Value := if i = 0 then [] else cs

theorem lcells_app (a : List Tgt) (t : Tgt) : lcells (a ++ [t]) = lcells a ++ tcells t := by simp [lcells]

theorem C120 {xb : Nat} {v : Value} {l : List UInt8} {h : List UInt8} (h32 : h.length = 32) (hl : (nums [1] ++ (h ++ (nums [1] ++ l))).length ≤ 2 ^ 40) (hv : SlB I v (nums [1] ++ (h ++ (nums [1] ++ l)))) (hs : Sat G ((xb, [v, .bool false], 209) :: M) I w) : Calls Tryz.prog 120 #[ptr xb 0] w (Ret fun r w' => ∃ J kv v', Le I J ∧ r = aggL [kv, .int .i64 1] ∧ SlI J 32 kv 1 (bcells h) ∧ SlB J v' l ∧ Sat G ((xb, [v', .bool false], 209) :: M) J w') := by
  have e1 := len_num (x := 1) (by decide) (by decide)
  refine enter1 Tryz.func120 rfl Tryz.ntmps120 rfl ?_
  repeat first | apply W.seq | apply W.region
  refine RL.e rfl rfl rfl (EF_allocA rfl zr39 hs) ?_
  rintro r1 w1 ⟨b2, rfl, hs1⟩
  refine RL.done (nxt ?_)
  repeat first | apply W.seq | apply W.region
  refine RL.e rfl rfl rfl (EF_allocA rfl zr39 hs1) ?_
  rintro r2 w2 ⟨b3, rfl, hs2⟩
  refine RL.done (nxt ?_)
  repeat first | apply W.seq | apply W.region
  refine RL.p rfl rfl rfl (PV_move rfl rfl) ?_
  refine RL.e rfl rfl rfl (K1 rfl fn119 rfl (C119n (by decide) (by decide) hl hv hs2.sw3)) ?_
  rintro r3 w3 ⟨J3, v3, hj3, rfl, hv3, hs3⟩
  refine RL.p rfl rfl rfl (PV_assign rfl rfl) ?_
  refine RL.done (nxt ?_)
  repeat first | apply W.seq | apply W.region
  refine RL.p rfl rfl rfl (PV_assign rfl rfl) ?_
  refine RL.done (nxt ?_)
  repeat first | apply W.seq | apply W.region
  refine W.block ?_
  repeat first | apply W.seq | apply W.region
  refine W.loop (F := fun i : Nat => [(5, .int .i64 (i : Int)), (4, .int .i64 1), (3, ptr b3 0), (2, ptr b2 0), (0, ptr xb 0)]) (J := fun i w => i ≤ 1 ∧ ∃ J y kv L, Le I J ∧ SlB J y (hR h i ++ (nums [1] ++ l)) ∧ OwnS 24 32 kv (bcells (hI h i)) L ∧ Sat G (L ++ (xb, [y, .bool false], 209) :: (b3, [kv, .int .i64 0], 39) :: (b2, zl39, 39) :: M) J w) (m := fun i => 1 - i) 0 (by repeat first | exact Sub.nil | refine Sub.cons rfl ?_) ⟨by omega, J3, v3, .slice none 0 0, [], hj3, hv3, OwnS.nil, hs3⟩ ?_
  rintro i w4 ⟨hi, J4, y, kv, L, hj4, hy, ho, hs4⟩
  repeat refine W.seq ?_
  refine W.cut (fun b : Bool => [(21, .bool b), (5, .int .i64 (i : Int)), (4, .int .i64 1), (3, ptr b3 0), (2, ptr b2 0), (0, ptr xb 0)]) (fun b w => (b = true → i < 1) ∧ (b = false → 1 ≤ i) ∧ Sat G (L ++ (xb, [y, .bool false], 209) :: (b3, [kv, .int .i64 0], 39) :: (b2, zl39, 39) :: M) J4 w) ?_ ?_
  ·
    refine W.region ?_
    refine RL.p rfl rfl rfl (PV_move rfl rfl) ?_
    refine RL.p rfl rfl rfl (PV_move rfl rfl) ?_
    refine RL.p rfl rfl rfl (PV_lss rfl rfl rfl) ?_
    refine RL.p rfl rfl rfl (PV_move rfl rfl) ?_
    refine RL.split 11 rfl (fun g1 => ?_) (fun g1 => ?_)
    ·
      refine RL.gp rfl rfl rfl rfl g1 rfl rfl rfl (PV_move rfl rfl) ?_
      refine RL.gp rfl rfl rfl rfl g1 rfl rfl rfl (PV_nilCheckP rfl rfl) ?_
      refine RL.gp rfl rfl rfl rfl g1 rfl rfl rfl (by first | exact PV_fieldAddr0 rfl rfl fa209_1 | exact PV_fieldAddr rfl rfl fa209_1) ?_
      refine RL.gs rfl rfl rfl rfl g1 rfl rfl rfl (PV_loadM1 rfl ag4 rfl (by first | exact m0 | exact m1 | exact m2 | exact m3 | exact m4 | exact m5 | exact mapp m0 | exact mapp m1 | exact mapp m2 | exact mapp m3) (by first | exact tc_34 | exact tc_35 | exact tc_36 | exact tc_0 | exact tc_1 | rfl)) hs4 ?_
      refine RL.gp rfl rfl rfl rfl g1 rfl rfl rfl (PV_not rfl rfl) ?_
      refine RL.p rfl rfl rfl (PV_pickT rfl rfl g1 rfl) ?_
      refine RL.p rfl rfl rfl (PV_move rfl rfl) ?_
      refine RL.split 18 rfl (fun g2 => ?_) (fun g2 => by cases g2)
      refine RL.gp rfl rfl rfl rfl g2 rfl rfl rfl (PV_move rfl rfl) ?_
      refine RL.gp rfl rfl rfl rfl g2 rfl rfl rfl (PV_leq rfl rfl rfl) ?_
      refine RL.p rfl rfl rfl (PV_pickT rfl rfl g2 rfl) ?_
      exact RL.done (cut_end (F := (fun b : Bool => [(21, .bool b), (5, .int .i64 (i : Int)), (4, .int .i64 1), (3, ptr b3 0), (2, ptr b2 0), (0, ptr xb 0)])) (J := (fun b w => (b = true → i < 1) ∧ (b = false → 1 ≤ i) ∧ Sat G (L ++ (xb, [y, .bool false], 209) :: (b3, [kv, .int .i64 0], 39) :: (b2, zl39, 39) :: M) J4 w)) _ (by repeat first | exact Sub.nil | refine Sub.cons rfl ?_) (by exact (by first | exact ⟨fun _ => (by have := of_decide_eq_true g1; omega), fun h => absurd (of_decide_eq_false h) (by omega), hs4⟩ | exact ⟨fun h => (by cases h), fun _ => (by have := of_decide_eq_false g1; omega), hs4⟩)))
    ·
      refine RL.gk rfl rfl rfl rfl g1 rfl rfl rfl ?_
      refine RL.gk rfl rfl rfl rfl g1 rfl rfl rfl ?_
      refine RL.gk rfl rfl rfl rfl g1 rfl rfl rfl ?_
      refine RL.gk rfl rfl rfl rfl g1 rfl rfl rfl ?_
      refine RL.gk rfl rfl rfl rfl g1 rfl rfl rfl ?_
      refine RL.p rfl rfl rfl (PV_pickF rfl rfl g1 rfl) ?_
      refine RL.p rfl rfl rfl (PV_move rfl rfl) ?_
      refine RL.gk rfl rfl rfl rfl rfl rfl rfl rfl ?_
      refine RL.gk rfl rfl rfl rfl rfl rfl rfl rfl ?_
      refine RL.p rfl rfl rfl (PV_pickF rfl rfl rfl rfl) ?_
      exact RL.done (cut_end (F := (fun b : Bool => [(21, .bool b), (5, .int .i64 (i : Int)), (4, .int .i64 1), (3, ptr b3 0), (2, ptr b2 0), (0, ptr xb 0)])) (J := (fun b w => (b = true → i < 1) ∧ (b = false → 1 ≤ i) ∧ Sat G (L ++ (xb, [y, .bool false], 209) :: (b3, [kv, .int .i64 0], 39) :: (b2, zl39, 39) :: M) J4 w)) _ (by repeat first | exact Sub.nil | refine Sub.cons rfl ?_) (by exact (by first | exact ⟨fun _ => (by have := of_decide_eq_true g1; omega), fun h => absurd (of_decide_eq_false h) (by omega), hs4⟩ | exact ⟨fun h => (by cases h), fun _ => (by have := of_decide_eq_false g1; omega), hs4⟩)))
  rintro b21 w104 ⟨hT, hF, hs104⟩
  refine nxt ?_
  repeat first | apply W.seq | apply W.region
  refine W.cond rfl (fun h1 => ?_) (fun h1 => ?_)
  ·
    obtain rfl : i = 0 := by have := hT h1; omega
    replace hy : SlB J4 y (h ++ (nums [1] ++ l)) := hy
    replace ho : OwnS 24 32 kv [] L := ho
    refine W.skip (nxt ?_)
    repeat first | apply W.seq | apply W.region
    refine W.block ?_
    repeat first | apply W.seq | apply W.region
    refine W.drawsH hs104.drop.tail [(0, true), (1, true), (2, false), (3, false), (4, false), (5, false), (6, false), (7, false)] mixed (by kernel_rfl) (by kernel_rfl) ?_
    have hs105 := hs104.drew
    refine TW.p rfl rfl rfl rfl (by first | exact PV_fieldAddr0 rfl rfl fa39_0 | exact PV_fieldAddr rfl rfl fa39_0) (hs105.drop.tail) ?_
    refine TW.s rfl rfl rfl rfl (PV_loadM1 rfl ag37 rfl (by first | exact m0 | exact m1 | exact m2 | exact m3 | exact m4 | exact m5 | exact mapp m0 | exact mapp m1 | exact mapp m2 | exact mapp m3) (by first | exact tc_34 | exact tc_35 | exact tc_36 | exact tc_0 | exact tc_1 | rfl)) (hs105.drop.tail) ?_
    refine TW.q rfl rfl rfl rfl (T := fun _ => True) (PV_move rfl rfl) trivial (fun _ => (hs105.drop.tail)) ?_
    refine TW.e rfl rfl rfl rfl (K1 rfl fn123 rfl (C123 h32 (by first | omega | (simp only [List.length_append, List.length_nil] at *; omega)) hy hs105.unmid)) ?_
    rintro r106 w106 ⟨J106, v106, hj106, rfl, hv106, hs106⟩
    refine ⟨(hs106.tail.drop.le hj106), ?_⟩
    refine TW.e rfl rfl rfl rfl (EF_bs1a rfl el37 rfl (by rw [length_bcells]; exact h32) (by decide) hs106) ?_
    rintro r107 w107 ⟨b28, rfl, hs107⟩
    refine ⟨(hs107.tail.tail.drop.le hj106), ?_⟩
    refine TW.e rfl rfl rfl rfl (EF_append (l := 0) (m := 1) (olds := []) (news := bcells h) rfl el37 rfl rfl ho rfl (rdW (m := 1) hs107 m0 (by rw [length_bcells]; exact h32) (Nat.le_refl _)) (one1_bcells _) (by omega) (by decide) hs107.mid2) ?_
    rintro r108 w108 ⟨L108, ho108, hs108⟩
    refine ⟨(hs108.drop.tail.tail.le hj106), ?_⟩
    refine TW.qn rfl rfl rfl rfl (T := fun _ => True) (by first | exact PV_fieldAddr0 rfl rfl fa39_0 | exact PV_fieldAddr rfl rfl fa39_0) trivial (by kernel_rfl) ?_
    refine TW.en0 rfl rfl rfl (by kernel_rfl) (EF_storeC (cs := [kv, .int .i64 0]) rfl rfl rfl sz37 ho108.cell (by simp) rfl hs108 (by first | exact u0 | exact u1 | exact u2 | exact u3 | exact u4 | exact u5 | exact u0.app | exact u1.app | exact u2.app | exact u3.app)) ?_
    rintro r109 w109 hs109
    refine TW.done (nxt ?_)
    repeat first | apply W.seq | apply W.region
    refine RL.p rfl rfl rfl (PV_move rfl rfl) ?_
    refine RL.p rfl rfl rfl (PV_add rfl rfl rfl (by omega)) ?_
    refine RL.p rfl rfl rfl (PV_assign rfl rfl) ?_
    refine RL.done (round_end 1 ?_ ?_ ?_)
    · repeat first | exact Sub.nil | refine Sub.cons rfl ?_
    · exact ⟨by omega, J106, v106, r108, L108, hj4.trans hj106, hv106, ho108, hs109.del (Del.app x0)⟩
    · first | omega | (dsimp only; omega)
  repeat first | apply W.seq | apply W.region
  obtain rfl : i = 1 := by have := hF h1; omega
  replace hy : SlB J4 y (nums [1] ++ l) := hy
  replace ho : OwnS 24 32 kv (bcells h) L := ho
  refine  W.exit (nxt ?_)
  repeat first | apply W.seq | apply W.region
  refine RL.p rfl rfl rfl (PV_move rfl rfl) ?_
  refine RL.e rfl rfl rfl (K1 rfl fn119 rfl (C119n (by decide) (by decide) (by first | omega | (simp only [List.length_append, List.length_nil] at *; omega)) hy hs104.unmid)) ?_
  rintro r105 w105 ⟨J105, v105, hj105, rfl, hv105, hs105⟩
  refine RL.p rfl rfl rfl (by first | exact PV_fieldAddr0 rfl rfl fa39_1 | exact PV_fieldAddr rfl rfl fa39_1) ?_
  refine RL.e0 rfl rfl (EF_storeC (cs := [kv, .int .i64 0]) rfl rfl rfl sz3 rfl (by simp) rfl hs105.mid (by first | exact u0 | exact u1 | exact u2 | exact u3 | exact u4 | exact u5 | exact u0.app | exact u1.app | exact u2.app | exact u3.app)) ?_
  rintro r106 w106 hs106
  refine RL.done (nxt ?_)
  repeat first | apply W.seq | apply W.region
  refine RL.s rfl rfl rfl (PV_loadMA (r := [kv, .int .i64 1]) rfl ag39 sz39 rfl (mapp m1) (by simp) rfl) hs106 ?_
  refine RL.e0 rfl rfl (EF_storeA (cs := zl39) rfl rfl rfl sz39 rfl (by rw [one1_cons, one1_cons, one1_nil, ho.cell]; rfl) hs106 (by first | exact u0 | exact u1 | exact u2 | exact u3 | exact u4 | exact u5 | exact u0.app | exact u1.app | exact u2.app | exact u3.app)) ?_
  rintro r107 w107 hs107
  refine RL.done (nxt ?_)
  repeat first | apply W.seq | apply W.region
  obtain ⟨J9, hj9, hk9, hs9⟩ := OwnS.freeze (m := 1) ho (by rw [length_bcells, h32]) (by decide) hs107
  exact  W.ret (ret_cell rfl rfl (ldA ag39 sz39 hs107 (mapp m2) rfl) ⟨_, rfl, J9, kv, v105, (hj4.trans hj105).trans hj9, rfl, hk9, hv105.le hj9, (hs9.del x1).del x1⟩) --hs107.tail.tail⟩)

theorem C131 {xb : Nat} {v : Value} {l : List UInt8} {t : Tgt} (h : targetB t = true) (hl : (targetE t ++ l).length ≤ 2 ^ 40) (hv : SlB I v (targetE t ++ l)) (hs : Sat G ((xb, [v, .bool false], 209) :: M) I w) : Calls Tryz.prog 131 #[ptr xb 0] w (Ret fun r w' => ∃ J v', Le I J ∧ r = aggL (tcells t) ∧ SlB J v' l ∧ Sat G ((xb, [v', .bool false], 209) :: M) J w') := by
  have h32 := t.h
  obtain ⟨hn, hz0, hz1, hw, hc, he⟩ := target_in h
  have hcc := num_in hc
  have hnl := name_len hn
  have hwl := name_len hw
  have hel := ecu_len h
  rw [target_split] at hl hv
  refine enter1 Tryz.func131 rfl Tryz.ntmps131 rfl ?_
  repeat first | apply W.seq | apply W.region
  refine RL.e rfl rfl rfl (EF_allocA rfl zr26 hs) ?_
  rintro r1 w1 ⟨b2, rfl, hs1⟩
  refine RL.done (nxt ?_)
  repeat first | apply W.seq | apply W.region
  refine RL.p rfl rfl rfl (PV_move rfl rfl) ?_
  refine RL.e rfl rfl rfl (K1 rfl fn127 rfl (C127 (by omega) (by first | omega | (simp only [List.length_append, List.length_nil] at *; omega)) hv hs1.sw)) ?_
  rintro r2 w2 ⟨J2, v2, hj2, rfl, hv2, hs2⟩
  refine RL.p rfl rfl rfl (PV_buildS (cs := tc t.name 0 z32 ByteArray.empty 0 ByteArray.empty) rfl pl26 zr26 rfl fill_tc) ?_
  refine RL.e rfl rfl rfl (EF_allocA rfl zr26 hs2) ?_
  rintro r3 w3 ⟨b3, rfl, hs3⟩
  refine RL.e0 rfl rfl (EF_storeA (cs := zl26) rfl rfl rfl sz26 (by rw [length_tc rfl]; rfl) one1_tc hs3 (by first | exact u0 | exact u1 | exact u2 | exact u3 | exact u4 | exact u5 | exact u0.app | exact u1.app | exact u2.app | exact u3.app)) ?_
  rintro r4 w4 hs4
  refine RL.done (nxt ?_)
  repeat first | apply W.seq | apply W.region
  refine RL.p rfl rfl rfl (PV_move rfl rfl) ?_
  refine RL.e rfl rfl rfl (K1 rfl fn119 rfl (C119n (by omega) (by omega) (by first | omega | (simp only [List.length_append, List.length_nil] at *; omega)) hv2 hs4.sw)) ?_
  rintro r5 w5 ⟨J5, v5, hj5, rfl, hv5, hs5⟩
  refine RL.p rfl rfl rfl (by first | exact PV_fieldAddr0 rfl rfl fa26_1 | exact PV_fieldAddr rfl rfl fa26_1) ?_
  refine RL.e0 rfl rfl (EF_storeC (cs := tc t.name 0 z32 ByteArray.empty 0 ByteArray.empty) rfl rfl rfl sz3 rfl (by first | (rw [length_tc h32 ]; decide) | (rw [length_tc rfl]; decide) | decide | simp) tc_z hs5 (by first | exact u0 | exact u1 | exact u2 | exact u3 | exact u4 | exact u5 | exact u0.app | exact u1.app | exact u2.app | exact u3.app)) ?_
  rintro r6 w6 hs6
  refine RL.done (nxt ?_)
  repeat first | apply W.seq | apply W.region
  refine RL.p rfl rfl rfl (PV_move rfl rfl) ?_
  refine RL.e rfl rfl rfl (K1 rfl fn123 rfl (C123 h32 (by first | omega | (simp only [List.length_append, List.length_nil] at *; omega)) hv5 hs6)) ?_
  rintro r7 w7 ⟨J7, v7, hj7, rfl, hv7, hs7⟩
  refine RL.p rfl rfl rfl (by first | exact PV_fieldAddr0 rfl rfl fa26_2 | exact PV_fieldAddr rfl rfl fa26_2) ?_
  refine RL.e0 rfl rfl (EF_storeP (cs := tc t.name t.size z32 ByteArray.empty 0 ByteArray.empty) rfl rfl rfl (by rw [length_bcells, h32]; exact sz24) (one1_bcells _) (by rw [length_tc rfl, length_bcells, h32]; decide) (tc_s rfl h32) hs7 (by first | exact u0 | exact u1 | exact u2 | exact u3 | exact u4 | exact u5 | exact u0.app | exact u1.app | exact u2.app | exact u3.app)) ?_
  rintro r8 w8 hs8
  refine RL.done (nxt ?_)
  repeat first | apply W.seq | apply W.region
  refine RL.p rfl rfl rfl (PV_move rfl rfl) ?_
  refine RL.e rfl rfl rfl (K1 rfl fn127 rfl (C127 (by omega) (by first | omega | (simp only [List.length_append, List.length_nil] at *; omega)) hv7 hs8)) ?_
  rintro r9 w9 ⟨J9, v9, hj9, rfl, hv9, hs9⟩
  refine RL.p rfl rfl rfl (by first | exact PV_fieldAddr0 rfl rfl fa26_3 | exact PV_fieldAddr rfl rfl fa26_3) ?_
  refine RL.e0 rfl rfl (EF_storeC (cs := tc t.name t.size t.sum ByteArray.empty 0 ByteArray.empty) rfl rfl rfl sz9 rfl (by first | (rw [length_tc h32 ]; decide) | (rw [length_tc rfl]; decide) | decide | simp) (tc_34' h32) hs9 (by first | exact u0 | exact u1 | exact u2 | exact u3 | exact u4 | exact u5 | exact u0.app | exact u1.app | exact u2.app | exact u3.app)) ?_
  rintro r10 w10 hs10
  refine RL.done (nxt ?_)
  repeat first | apply W.seq | apply W.region
  refine RL.p rfl rfl rfl (PV_move rfl rfl) ?_
  refine RL.e rfl rfl rfl (K1 rfl fn119 rfl (C119n (by omega) (by omega) (by first | omega | (simp only [List.length_append, List.length_nil] at *; omega)) hv9 hs10)) ?_
  rintro r11 w11 ⟨J11, v11, hj11, rfl, hv11, hs11⟩
  refine RL.p rfl rfl rfl (by first | exact PV_fieldAddr0 rfl rfl fa26_4 | exact PV_fieldAddr rfl rfl fa26_4) ?_
  refine RL.e0 rfl rfl (EF_storeC (cs := tc t.name t.size t.sum t.hw 0 ByteArray.empty) rfl rfl rfl sz3 rfl (by first | (rw [length_tc h32 ]; decide) | (rw [length_tc rfl]; decide) | decide | simp) (tc_35' h32) hs11 (by first | exact u0 | exact u1 | exact u2 | exact u3 | exact u4 | exact u5 | exact u0.app | exact u1.app | exact u2.app | exact u3.app)) ?_
  rintro r12 w12 hs12
  refine RL.done (nxt ?_)
  repeat first | apply W.seq | apply W.region
  refine RL.p rfl rfl rfl (PV_move rfl rfl) ?_
  refine RL.e rfl rfl rfl (K1 rfl fn127 rfl (C127 (by omega) (by first | omega | (simp only [List.length_append, List.length_nil] at *; omega)) hv11 hs12)) ?_
  rintro r13 w13 ⟨J13, v13, hj13, rfl, hv13, hs13⟩
  refine RL.p rfl rfl rfl (by first | exact PV_fieldAddr0 rfl rfl fa26_5 | exact PV_fieldAddr rfl rfl fa26_5) ?_
  refine RL.e0 rfl rfl (EF_storeC (cs := tc t.name t.size t.sum t.hw t.ctr ByteArray.empty) rfl rfl rfl sz9 rfl (by first | (rw [length_tc h32 ]; decide) | (rw [length_tc rfl]; decide) | decide | simp) (tc_36' h32) hs13 (by first | exact u0 | exact u1 | exact u2 | exact u3 | exact u4 | exact u5 | exact u0.app | exact u1.app | exact u2.app | exact u3.app)) ?_
  rintro r14 w14 hs14
  refine RL.done (nxt ?_)
  repeat first | apply W.seq | apply W.region
  refine RL.s rfl rfl rfl (PV_loadMA (r := tcells t) rfl ag26 sz26 rfl m1 (by rw [length_tc h32]; decide) (by rw [tcells_tc]; exact part_whole (length_tc h32))) hs14 ?_
  refine RL.e0 rfl rfl (EF_storeA (cs := zl26) rfl rfl rfl sz26 (by rw [length_tcells]; rfl) (one1_tcells _) hs14 (by first | exact u0 | exact u1 | exact u2 | exact u3 | exact u4 | exact u5 | exact u0.app | exact u1.app | exact u2.app | exact u3.app)) ?_
  rintro r15 w15 hs15
  refine RL.done (nxt ?_)
  repeat first | apply W.seq | apply W.region
  exact W.ret (ret_cell rfl rfl (ldA ag26 sz26 hs15 m2 (length_tcells _)) ⟨_, rfl, J13, v13, ((((hj2.trans hj5).trans hj7).trans hj9).trans hj11).trans hj13, rfl, hv13, (hs15.del x1).del x1⟩) --.tail.tail⟩)

theorem C80 {p : Value} {v e sn : Int} {h : List UInt8} (h32 : h.length = 32) (hv : isVersionB v = true) (he : isNumB e = true) (hn : isVersionB sn = true) (hp : SlB I p (nums [2] ++ timeE v e sn h)) (hs : Sat G M I w) : Calls Tryz.prog 80 #[p] w (Ret fun r w' => ∃ J, Le I J ∧ r = .tuple #[aggL (.int .i64 v :: .int .i64 e :: .int .i64 sn :: bcells h), .int .i64 0] ∧ Sat G M J w') := by
  have hvv := version_in hv
  have hee := num_in he
  have hnn := version_in hn
  have e1 := len_num (x := 2) (by decide) (by decide)
  have e2 := len_num (x := v) (by omega) (by omega)
  have e3 := len_num (x := e) (by omega) (by omega)
  have e4 := len_num (x := sn) (by omega) (by omega)
  have hq := hp
  rw [time_split] at hp
  have hl : (nums [2] ++ (nums [v] ++ (nums [e] ++ (nums [sn] ++ (h ++ []))))).length ≤ 2 ^ 40 := by simp only [List.length_append, List.length_nil]; omega
  refine enter1 Tryz.func80 rfl Tryz.ntmps80 rfl ?_
  repeat first | apply W.seq | apply W.region
  refine RL.e rfl rfl rfl (EF_allocA rfl zr45 hs) ?_
  rintro r1 w1 ⟨b2, rfl, hs1⟩
  refine RL.p rfl rfl rfl (PV_assign rfl rfl) ?_
  refine RL.done (nxt ?_)
  repeat first | apply W.seq | apply W.region
  refine RL.p rfl rfl rfl (PV_move rfl rfl) ?_
  refine RL.e rfl rfl rfl (K2 rfl fn118 rfl rfl (C118n (by omega) (by omega) hl hp hs1)) ?_
  rintro r2 w2 ⟨J2, xb, v2, hj2, rfl, hv2, hs2⟩
  refine RL.p rfl rfl rfl (PV_assign rfl rfl) ?_
  refine RL.done (nxt ?_)
  repeat first | apply W.seq | apply W.region
  refine RL.e rfl rfl rfl (EF_allocA rfl zr45 hs2) ?_
  rintro r3 w3 ⟨b5, rfl, hs3⟩
  refine RL.done (nxt ?_)
  repeat first | apply W.seq | apply W.region
  refine RL.p rfl rfl rfl (PV_move rfl rfl) ?_
  refine RL.e rfl rfl rfl (K1 rfl fn119 rfl (C119n (by omega) (by omega) (by first | omega | (simp only [List.length_append, List.length_nil] at *; omega)) hv2 hs3.sw)) ?_
  rintro r4 w4 ⟨J4, v4, hj4, rfl, hv4, hs4⟩
  refine RL.p rfl rfl rfl (by first | exact PV_fieldAddr0 rfl rfl fa45_0 | exact PV_fieldAddr rfl rfl fa45_0) ?_
  refine RL.e0 rfl rfl (EF_storeC (cs := zl45) rfl rfl rfl sz3 rfl (by first | (rw [length_tc h32 ]; decide) | (rw [length_tc rfl]; decide) | decide | simp) (cs' := .int .i64 v :: .int .i64 0 :: .int .i64 0 :: bcells z32) rfl hs4 (by first | exact u0 | exact u1 | exact u2 | exact u3 | exact u4 | exact u5 | exact u0.app | exact u1.app | exact u2.app | exact u3.app)) ?_
  rintro r5 w5 hs5
  refine RL.done (nxt ?_)
  repeat first | apply W.seq | apply W.region
  refine RL.p rfl rfl rfl (PV_move rfl rfl) ?_
  refine RL.e rfl rfl rfl (K1 rfl fn119 rfl (C119n (by omega) (by omega) (by first | omega | (simp only [List.length_append, List.length_nil] at *; omega)) hv4 hs5)) ?_
  rintro r6 w6 ⟨J6, v6, hj6, rfl, hv6, hs6⟩
  refine RL.p rfl rfl rfl (by first | exact PV_fieldAddr0 rfl rfl fa45_1 | exact PV_fieldAddr rfl rfl fa45_1) ?_
  refine RL.e0 rfl rfl (EF_storeC (cs := .int .i64 v :: .int .i64 0 :: .int .i64 0 :: bcells z32) rfl rfl rfl sz3 rfl (by first | (rw [length_tc h32 ]; decide) | (rw [length_tc rfl]; decide) | decide | simp) rfl hs6 (by first | exact u0 | exact u1 | exact u2 | exact u3 | exact u4 | exact u5 | exact u0.app | exact u1.app | exact u2.app | exact u3.app)) ?_
  rintro r7 w7 hs7
  refine RL.done (nxt ?_)
  repeat first | apply W.seq | apply W.region
  refine RL.p rfl rfl rfl (PV_move rfl rfl) ?_
  refine RL.e rfl rfl rfl (K1 rfl fn119 rfl (C119n (by omega) (by omega) (by first | omega | (simp only [List.length_append, List.length_nil] at *; omega)) hv6 hs7)) ?_
  rintro r8 w8 ⟨J8, v8, hj8, rfl, hv8, hs8⟩
  refine RL.p rfl rfl rfl (by first | exact PV_fieldAddr0 rfl rfl fa45_2 | exact PV_fieldAddr rfl rfl fa45_2) ?_
  refine RL.e0 rfl rfl (EF_storeC (cs := .int .i64 v :: .int .i64 e :: .int .i64 0 :: bcells z32) rfl rfl rfl sz3 rfl (by first | (rw [length_tc h32 ]; decide) | (rw [length_tc rfl]; decide) | decide | simp) rfl hs8 (by first | exact u0 | exact u1 | exact u2 | exact u3 | exact u4 | exact u5 | exact u0.app | exact u1.app | exact u2.app | exact u3.app)) ?_
  rintro r9 w9 hs9
  refine RL.done (nxt ?_)
  repeat first | apply W.seq | apply W.region
  refine RL.p rfl rfl rfl (PV_move rfl rfl) ?_
  refine RL.e rfl rfl rfl (K1 rfl fn123 rfl (C123 h32 (by first | omega | (simp only [List.length_append, List.length_nil] at *; omega)) hv8 hs9)) ?_
  rintro r10 w10 ⟨J10, v10, hj10, rfl, hv10, hs10⟩
  refine RL.p rfl rfl rfl (by first | exact PV_fieldAddr0 rfl rfl fa45_3 | exact PV_fieldAddr rfl rfl fa45_3) ?_
  refine RL.e0 rfl rfl (EF_storeP (cs := .int .i64 v :: .int .i64 e :: .int .i64 sn :: bcells z32) rfl rfl rfl (by rw [length_bcells, h32]; exact sz24) (one1_bcells _) (by rw [length_bcells, h32]; exact Nat.le_refl 35) (tm_s rfl h32) hs10 (by first | exact u0 | exact u1 | exact u2 | exact u3 | exact u4 | exact u5 | exact u0.app | exact u1.app | exact u2.app | exact u3.app)) ?_
  rintro r11 w11 hs11
  refine RL.done (nxt ?_)
  repeat first | apply W.seq | apply W.region
  refine RL.s rfl rfl rfl (PV_loadMA (r := .int .i64 v :: .int .i64 e :: .int .i64 sn :: bcells h) rfl ag45 sz45 rfl m1 (by simp [length_bcells, h32]) (part_whole (by simp [length_bcells, h32]))) hs11 ?_
  refine RL.e rfl rfl rfl (K1 rfl fn124 rfl (C124 h32 hv he hn hs11)) ?_
  rintro r12 w12 ⟨u12, L12, rfl, ho12, hs12⟩
  refine RL.p rfl rfl rfl (PV_move rfl rfl) ?_
  refine RL.p rfl rfl rfl (PV_extract rfl rfl rfl) ?_
  refine RL.p rfl rfl rfl (PV_extract rfl rfl rfl) ?_
  refine RL.p rfl rfl rfl (PV_assign rfl rfl) ?_
  refine RL.p rfl rfl rfl (PV_assign rfl rfl) ?_
  refine RL.done (nxt ?_)
  repeat first | apply W.seq | apply W.region
  refine RL.p rfl rfl rfl (PV_move rfl rfl) ?_
  refine RL.p rfl rfl rfl (PV_move rfl rfl) ?_
  refine RL.p rfl rfl rfl (PV_move rfl rfl) ?_
  refine RL.p rfl rfl rfl (PV_move rfl rfl) ?_
  refine RL.e rfl rfl rfl (K4 rfl fn122 rfl rfl rfl rfl (C122 hv10 (hq.le ((((hj2.trans hj4).trans hj6).trans hj8).trans hj10)).toM ((ho12.toM (by rw [length_bcells]; exact (Nat.mul_one _).symm) (by decide)).mono fun _ h => h.mid) hs12.unmid)) ?_
  rintro r13 w13 ⟨rfl, hs13⟩
  replace hs13 := hs13.dropu
  refine RL.p rfl rfl rfl (PV_not rfl rfl) ?_
  refine RL.done (nxt ?_)
  repeat first | apply W.seq | apply W.region
  refine W.cond rfl (fun h1 => ?_) (fun h1 => ?_)
  · cases h1
  refine W.skip (nxt ?_)
  repeat first | apply W.seq | apply W.region
  refine RL.s rfl rfl rfl (PV_loadMA (r := .int .i64 v :: .int .i64 e :: .int .i64 sn :: bcells h) rfl ag45 sz45 rfl m1 (by simp [length_bcells, h32]) (part_whole (by simp [length_bcells, h32]))) hs13 ?_
  refine RL.e0 rfl rfl (EF_storeA (cs := zl45) rfl rfl rfl sz45 (by simp [length_bcells, h32]; rfl) (by rw [one1_cons, one1_cons, one1_cons, one1_bcells]; rfl) hs13 (by first | exact u0 | exact u1 | exact u2 | exact u3 | exact u4 | exact u5 | exact u0.app | exact u1.app | exact u2.app | exact u3.app)) ?_
  rintro r14 w14 hs14
  refine RL.p rfl rfl rfl (PV_assign rfl rfl) ?_
  refine RL.done (nxt ?_)
  repeat first | apply W.seq | apply W.region
  exact W.ret (ret_cell2 rfl rfl rfl (ldA ag45 sz45 hs14 m2 (by simp [length_bcells, h32])) ⟨_, rfl, J10, (((hj2.trans hj4).trans hj6).trans hj8).trans hj10, rfl, hs14.tail.tail.tail⟩) --hs14.tail.tail⟩)

theorem C78 {p : Value} {ver e : Int} {hh : Nat → List UInt8} (hver : isVersionB ver = true) (he : isNumB e = true) (h32 : ∀ j, j < 4 → (hh j).length = 32) (hp : SlB I p (nums [1] ++ rootE ver e hh)) (hs : Sat G M I w) : Calls Tryz.prog 78 #[p] w (Ret fun r w' => ∃ J ks, Le I J ∧ r = .tuple #[aggL (rcells ver e ks), .int .i64 0] ∧ (∀ j, j < 4 → SlI J 32 (ks j) 1 (bcells (hh j))) ∧ Sat G M J w') := by
  have hvv := version_in hver
  have hee := num_in he
  have e1 := len_num (x := 1) (by decide) (by decide)
  have e2 := len_num (x := ver) (by omega) (by omega)
  have e3 := len_num (x := e) (by omega) (by omega)
  have e4 := len_rolesR h32 4 0 rfl
  have hq := hp
  rw [root_split] at hp
  have hl : (nums [1] ++ (nums [ver] ++ (nums [e] ++ rolesR hh 0))).length ≤ 2 ^ 40 := by simp only [List.length_append]; omega
  refine enter1 Tryz.func78 rfl Tryz.ntmps78 rfl ?_
  repeat first | apply W.seq | apply W.region
  refine RL.e rfl rfl rfl (EF_allocA rfl zr42 hs) ?_
  rintro r1 w1 ⟨b2, rfl, hs1⟩
  refine RL.p rfl rfl rfl (PV_assign rfl rfl) ?_
  refine RL.done (nxt ?_)
  repeat first | apply W.seq | apply W.region
  refine RL.p rfl rfl rfl (PV_move rfl rfl) ?_
  refine RL.e rfl rfl rfl (K2 rfl fn118 rfl rfl (C118n (by omega) (by omega) hl hp hs1)) ?_
  rintro r2 w2 ⟨J2, xb, v2, hj2, rfl, hv2, hs2⟩
  refine RL.p rfl rfl rfl (PV_assign rfl rfl) ?_
  refine RL.done (nxt ?_)
  repeat first | apply W.seq | apply W.region
  refine RL.p rfl rfl rfl (PV_move rfl rfl) ?_
  refine RL.e rfl rfl rfl (K1 rfl fn119 rfl (C119n (by omega) (by omega) (by first | omega | (simp only [List.length_append, List.length_nil] at *; omega)) hv2 hs2)) ?_
  rintro r3 w3 ⟨J3, v3, hj3, rfl, hv3, hs3⟩
  refine RL.p rfl rfl rfl (PV_buildS (cs := rprog ver 0 (fun _ => .slice none 0 0) 0) rfl pl42 zr42 rfl rfl) ?_
  refine RL.e rfl rfl rfl (EF_allocA rfl zr42 hs3) ?_
  rintro r4 w4 ⟨b5, rfl, hs4⟩
  refine RL.e0 rfl rfl (EF_storeA (cs := zl42) rfl rfl rfl sz42 rfl rfl hs4 (by first | exact u0 | exact u1 | exact u2 | exact u3 | exact u4 | exact u5 | exact u0.app | exact u1.app | exact u2.app | exact u3.app)) ?_
  rintro r5 w5 hs5
  refine RL.done (nxt ?_)
  repeat first | apply W.seq | apply W.region
  refine RL.p rfl rfl rfl (PV_move rfl rfl) ?_
  refine RL.e rfl rfl rfl (K1 rfl fn119 rfl (C119n (by omega) (by omega) (by first | omega | (simp only [List.length_append, List.length_nil] at *; omega)) hv3 hs5.sw)) ?_
  rintro r6 w6 ⟨J6, v6, hj6, rfl, hv6, hs6⟩
  refine RL.p rfl rfl rfl (by first | exact PV_fieldAddr0 rfl rfl fa42_1 | exact PV_fieldAddr rfl rfl fa42_1) ?_
  refine RL.e0 rfl rfl (EF_storeC (cs := rprog ver 0 (fun _ => .slice none 0 0) 0) (cs' := rprog ver e (fun _ => .slice none 0 0) 0) rfl rfl rfl sz3 rfl (by show 1 < 10; omega) rfl hs6 (by first | exact u0 | exact u1 | exact u2 | exact u3 | exact u4 | exact u5 | exact u0.app | exact u1.app | exact u2.app | exact u3.app)) ?_
  rintro r7 w7 hs7
  refine RL.done (nxt ?_)
  repeat first | apply W.seq | apply W.region
  refine RL.p rfl rfl rfl (PV_assign rfl rfl) ?_
  refine RL.done (nxt ?_)
  repeat first | apply W.seq | apply W.region
  refine W.block ?_
  repeat first | apply W.seq | apply W.region
  refine W.loop (F := fun i : Nat => [(6, .int .i64 (i : Int)), (5, ptr b5 0), (2, ptr b2 0), (4, ptr xb 0), (0, p), (3, .int .i64 0)]) (J := fun i w => i ≤ 4 ∧ ∃ J y ks, Le I J ∧ SlB J y (rolesR hh i) ∧ (∀ j, j < i → SlI J 32 (ks j) 1 (bcells (hh j))) ∧ Sat G ((xb, [y, .bool false], 209) :: (b5, rprog ver e ks i, 42) :: (b2, zl42, 42) :: M) J w) (m := fun i => 4 - i) 0 (by repeat first | exact Sub.nil | refine Sub.cons rfl ?_) ⟨by omega, J6, v6, (fun _ => .slice none 0 0), (hj2.trans hj3).trans hj6, hv6, (fun j hj => absurd hj (by omega)), hs7⟩ ?_
  rintro i w8 ⟨hi, J8, y, ks, hj8, hy, hks, hs8⟩
  repeat first | apply W.seq | apply W.region
  refine RL.p rfl rfl rfl (PV_move rfl rfl) ?_
  refine RL.p rfl rfl rfl (PV_lss rfl rfl rfl) ?_
  refine RL.done (nxt ?_)
  repeat first | apply W.seq | apply W.region
  refine W.cond rfl (fun h1 => ?_) (fun h1 => ?_)
  ·
    have hi1 : i < 4 := by have := of_decide_eq_true h1; omega
    have e5 := len_rolesR h32 (4 - (i + 1)) (i + 1) (by omega)
    have e6 := h32 i hi1
    rw [rolesR_succ hh hi1] at hy
    refine W.skip (nxt ?_)
    repeat first | apply W.seq | apply W.region
    refine W.block ?_
    repeat first | apply W.seq | apply W.region
    refine RL.p rfl rfl rfl (PV_move rfl rfl) ?_
    refine RL.p rfl rfl rfl (PV_move rfl rfl) ?_
    refine RL.e rfl rfl rfl (K1 rfl fn120 rfl (C120 e6 (by first | omega | (simp only [List.length_append, List.length_nil] at *; omega)) hy hs8)) ?_
    rintro r9 w9 ⟨J9, kv9, v9, hj9, rfl, hk9, hv9, hs9⟩
    refine RL.p rfl rfl rfl (by first | exact PV_fieldAddr0 rfl rfl fa42_2 | exact PV_fieldAddr rfl rfl fa42_2) ?_
    refine RL.p rfl rfl rfl (PV_indexArr rfl Tryz.underlying40 sz39 rfl rfl rfl (by omega)) ?_
    refine RL.e0 rfl rfl (EF_storeP (cs := rprog ver e ks i) rfl rfl rfl sz39 (by rw [one1_cons, one1_cons, one1_nil, hk9.cell]; rfl) (by show 0 + 2 + i * 2 + 2 ≤ 10; omega) (rprog_step hi1) hs9 (by first | exact u0 | exact u1 | exact u2 | exact u3 | exact u4 | exact u5 | exact u0.app | exact u1.app | exact u2.app | exact u3.app)) ?_
    rintro r10 w10 hs10
    refine RL.done (nxt ?_)
    repeat first | apply W.seq | apply W.region
    refine RL.p rfl rfl rfl (PV_move rfl rfl) ?_
    refine RL.p rfl rfl rfl (PV_add rfl rfl rfl (by omega)) ?_
    refine RL.p rfl rfl rfl (PV_assign rfl rfl) ?_
    refine RL.done (round_end (i + 1) ?_ ?_ ?_)
    · repeat first | exact Sub.nil | refine Sub.cons rfl ?_
    · exact ⟨by omega, J9, v9, updK ks i kv9, hj8.trans hj9, hv9, updK_all (Q := fun j k => SlI J9 32 k 1 (bcells (hh j))) (fun j hj => (hks j hj).le hj9) hk9, hs10⟩
    · first | omega | (dsimp only; omega)
  repeat first | apply W.seq | apply W.region
  obtain rfl : i = 4 := by have := of_decide_eq_false h1; omega
  rw [rprog_four] at hs8
  replace hy : SlB J8 y [] := hy
  refine  W.exit (nxt ?_)
  repeat first | apply W.seq | apply W.region
  refine RL.s rfl rfl rfl (PV_loadMA (r := rcells ver e ks) rfl ag42 sz42 rfl m1 (by show 10 ≤ 10; omega) rfl) hs8 ?_
  refine RL.e rfl rfl rfl (K1 rfl fn121 rfl (C121 hver he h32 (fun j hj => (hks j hj).toM) hs8)) ?_
  rintro r9 w9 ⟨u9, L9, rfl, ho9, hs9⟩
  refine RL.p rfl rfl rfl (PV_move rfl rfl) ?_
  refine RL.p rfl rfl rfl (PV_extract rfl rfl rfl) ?_
  refine RL.p rfl rfl rfl (PV_extract rfl rfl rfl) ?_
  refine RL.p rfl rfl rfl (PV_assign rfl rfl) ?_
  refine RL.p rfl rfl rfl (PV_assign rfl rfl) ?_
  refine RL.done (nxt ?_)
  repeat first | apply W.seq | apply W.region
  refine RL.p rfl rfl rfl (PV_move rfl rfl) ?_
  refine RL.p rfl rfl rfl (PV_move rfl rfl) ?_
  refine RL.p rfl rfl rfl (PV_move rfl rfl) ?_
  refine RL.p rfl rfl rfl (PV_move rfl rfl) ?_
  refine RL.e rfl rfl rfl (K4 rfl fn122 rfl rfl rfl rfl (C122 hy (hq.le hj8).toM ((ho9.toM (by rw [length_bcells]; exact (Nat.mul_one _).symm) (by decide)).mono fun _ h => h.mid) hs9.unmid)) ?_
  rintro r10 w10 ⟨rfl, hs10⟩
  replace hs10 := hs10.dropu
  refine RL.p rfl rfl rfl (PV_not rfl rfl) ?_
  refine RL.done (nxt ?_)
  repeat first | apply W.seq | apply W.region
  refine W.cond rfl (fun h2 => ?_) (fun h2 => ?_)
  · cases h2
  refine W.skip (nxt ?_)
  repeat first | apply W.seq | apply W.region
  refine RL.s rfl rfl rfl (PV_loadMA (r := rcells ver e ks) rfl ag42 sz42 rfl m1 (by show 10 ≤ 10; omega) rfl) hs10 ?_
  refine RL.e0 rfl rfl (EF_storeA (cs := zl42) rfl rfl rfl sz42 rfl (one1_rprog fun j hj => (hks j hj).cell) hs10 (by first | exact u0 | exact u1 | exact u2 | exact u3 | exact u4 | exact u5 | exact u0.app | exact u1.app | exact u2.app | exact u3.app)) ?_
  rintro r11 w11 hs11
  refine RL.p rfl rfl rfl (PV_assign rfl rfl) ?_
  refine RL.done (nxt ?_)
  repeat first | apply W.seq | apply W.region
  exact W.ret (ret_cell2 rfl rfl rfl (ldA ag42 sz42 hs11 m2 rfl) ⟨_, rfl, J8, ks, hj8, rfl, hks, hs11.tail.tail.tail⟩) --hs11.tail.tail⟩)

theorem C82 {p : Value} {s : ByteArray} {ver e x : Int} (hn : nameB s = true) (hx : isVersionB x = true) (hver : isVersionB ver = true) (he : isNumB e = true) (hp : SlB I p (nums [3] ++ snapE ver e s x)) (hs : Sat G M I w) : Calls Tryz.prog 82 #[p] w (Ret fun r w' => ∃ J kv, Le I J ∧ r = .tuple #[aggL [.int .i64 ver, .int .i64 e, kv], .int .i64 0] ∧ SlI J 2 kv 1 [.string s, .int .i64 x] ∧ Sat G M J w') := by
  have hvv := version_in hver
  have hee := num_in he
  have hxx := version_in hx
  have hnl := name_len hn
  have e0 := len_row hnl
  have e1 := len_num (x := 3) (by decide) (by decide)
  have e2 := len_num (x := ver) (by omega) (by omega)
  have e3 := len_num (x := e) (by omega) (by omega)
  have e4 := len_num (x := x) (by omega) (by omega)
  have e5 := len_num (x := 1) (by decide) (by decide)
  have hq := hp
  rw [snap_split] at hp
  have hl : (nums [3] ++ (nums [ver] ++ (nums [e] ++ (nums [1] ++ (rowB (sbytes s) ++ (nums [x] ++ [])))))).length ≤ 2 ^ 40 := by simp only [List.length_append, List.length_nil]; omega
  refine enter1 Tryz.func82 rfl Tryz.ntmps82 rfl ?_
  repeat first | apply W.seq | apply W.region
  refine RL.e rfl rfl rfl (EF_allocA rfl zr48 hs) ?_
  rintro r1 w1 ⟨b2, rfl, hs1⟩
  refine RL.p rfl rfl rfl (PV_assign rfl rfl) ?_
  refine RL.done (nxt ?_)
  repeat first | apply W.seq | apply W.region
  refine RL.p rfl rfl rfl (PV_move rfl rfl) ?_
  refine RL.e rfl rfl rfl (K2 rfl fn118 rfl rfl (C118n (by omega) (by omega) hl hp hs1)) ?_
  rintro r2 w2 ⟨J2, xb, v2, hj2, rfl, hv2, hs2⟩
  refine RL.p rfl rfl rfl (PV_assign rfl rfl) ?_
  refine RL.done (nxt ?_)
  repeat first | apply W.seq | apply W.region
  refine RL.e rfl rfl rfl (EF_allocA rfl zr48 hs2) ?_
  rintro r3 w3 ⟨b5, rfl, hs3⟩
  refine RL.done (nxt ?_)
  repeat first | apply W.seq | apply W.region
  refine RL.p rfl rfl rfl (PV_move rfl rfl) ?_
  refine RL.e rfl rfl rfl (K1 rfl fn119 rfl (C119n (by omega) (by omega) (by first | omega | (simp only [List.length_append, List.length_nil] at *; omega)) hv2 hs3.sw)) ?_
  rintro r4 w4 ⟨J4, v4, hj4, rfl, hv4, hs4⟩
  refine RL.p rfl rfl rfl (by first | exact PV_fieldAddr0 rfl rfl fa48_0 | exact PV_fieldAddr rfl rfl fa48_0) ?_
  refine RL.e0 rfl rfl (EF_storeC (cs := zl48) rfl rfl rfl sz3 rfl (by first | (rw [length_tc h32 ]; decide) | (rw [length_tc rfl]; decide) | decide | simp) (cs' := [.int .i64 ver, .int .i64 0, .slice none 0 0]) rfl hs4 (by first | exact u0 | exact u1 | exact u2 | exact u3 | exact u4 | exact u5 | exact u0.app | exact u1.app | exact u2.app | exact u3.app)) ?_
  rintro r5 w5 hs5
  refine RL.done (nxt ?_)
  repeat first | apply W.seq | apply W.region
  refine RL.p rfl rfl rfl (PV_move rfl rfl) ?_
  refine RL.e rfl rfl rfl (K1 rfl fn119 rfl (C119n (by omega) (by omega) (by first | omega | (simp only [List.length_append, List.length_nil] at *; omega)) hv4 hs5)) ?_
  rintro r6 w6 ⟨J6, v6, hj6, rfl, hv6, hs6⟩
  refine RL.p rfl rfl rfl (by first | exact PV_fieldAddr0 rfl rfl fa48_1 | exact PV_fieldAddr rfl rfl fa48_1) ?_
  refine RL.e0 rfl rfl (EF_storeC (cs := [.int .i64 ver, .int .i64 0, .slice none 0 0]) rfl rfl rfl sz3 rfl (by first | (rw [length_tc h32 ]; decide) | (rw [length_tc rfl]; decide) | decide | simp) (cs' := [.int .i64 ver, .int .i64 e, .slice none 0 0]) rfl hs6 (by first | exact u0 | exact u1 | exact u2 | exact u3 | exact u4 | exact u5 | exact u0.app | exact u1.app | exact u2.app | exact u3.app)) ?_
  rintro r7 w7 hs7
  refine RL.done (nxt ?_)
  repeat first | apply W.seq | apply W.region
  refine RL.p rfl rfl rfl (PV_move rfl rfl) ?_
  refine RL.e rfl rfl rfl (K1 rfl fn119 rfl (C119n (by omega) (by omega) (by first | omega | (simp only [List.length_append, List.length_nil] at *; omega)) hv6 hs7)) ?_
  rintro r8 w8 ⟨J8, v8, hj8, rfl, hv8, hs8⟩
  refine RL.p rfl rfl rfl (PV_assign rfl rfl) ?_
  refine RL.done (nxt ?_)
  repeat first | apply W.seq | apply W.region
  refine RL.p rfl rfl rfl (PV_assign rfl rfl) ?_
  refine RL.done (nxt ?_)
  repeat first | apply W.seq | apply W.region
  refine W.block ?_
  repeat first | apply W.seq | apply W.region
  refine W.loop (F := fun i : Nat => [(7, .int .i64 (i : Int)), (6, .int .i64 1), (5, ptr b5 0), (2, ptr b2 0), (4, ptr xb 0), (0, p), (3, .int .i64 0)]) (J := fun i w => i ≤ 1 ∧ ∃ J y kv L, Le I J ∧ SlB J y (hR (rowB (sbytes s) ++ (nums [x] ++ [])) i) ∧ OwnS 98 2 kv (hS [.string s, .int .i64 x] i) L ∧ Sat G (L ++ (xb, [y, .bool false], 209) :: (b5, [.int .i64 ver, .int .i64 e, kv], 48) :: (b2, zl48, 48) :: M) J w) (m := fun i => 1 - i) 0 (by repeat first | exact Sub.nil | refine Sub.cons rfl ?_) ⟨by omega, J8, v8, .slice none 0 0, [], ((hj2.trans hj4).trans hj6).trans hj8, hv8, OwnS.nil, hs8⟩ ?_
  rintro i w9 ⟨hi, J9, y, kv, L, hj9, hy, ho, hs9⟩
  repeat refine W.seq ?_
  refine W.cut (fun b : Bool => [(34, .bool b), (7, .int .i64 (i : Int)), (6, .int .i64 1), (5, ptr b5 0), (2, ptr b2 0), (4, ptr xb 0), (0, p), (3, .int .i64 0)]) (fun b w => (b = true → i < 1) ∧ (b = false → 1 ≤ i) ∧ Sat G (L ++ (xb, [y, .bool false], 209) :: (b5, [.int .i64 ver, .int .i64 e, kv], 48) :: (b2, zl48, 48) :: M) J9 w) ?_ ?_
  ·
    refine W.region ?_
    refine RL.p rfl rfl rfl (PV_move rfl rfl) ?_
    refine RL.p rfl rfl rfl (PV_move rfl rfl) ?_
    refine RL.p rfl rfl rfl (PV_lss rfl rfl rfl) ?_
    refine RL.p rfl rfl rfl (PV_move rfl rfl) ?_
    refine RL.split 24 rfl (fun g1 => ?_) (fun g1 => ?_)
    ·
      refine RL.gp rfl rfl rfl rfl g1 rfl rfl rfl (PV_move rfl rfl) ?_
      refine RL.gp rfl rfl rfl rfl g1 rfl rfl rfl (PV_nilCheckP rfl rfl) ?_
      refine RL.gp rfl rfl rfl rfl g1 rfl rfl rfl (by first | exact PV_fieldAddr0 rfl rfl fa209_1 | exact PV_fieldAddr rfl rfl fa209_1) ?_
      refine RL.gs rfl rfl rfl rfl g1 rfl rfl rfl (PV_loadM1 rfl ag4 rfl (by first | exact m0 | exact m1 | exact m2 | exact m3 | exact m4 | exact m5 | exact mapp m0 | exact mapp m1 | exact mapp m2 | exact mapp m3) (by first | exact tc_34 | exact tc_35 | exact tc_36 | exact tc_0 | exact tc_1 | rfl)) hs9 ?_
      refine RL.gp rfl rfl rfl rfl g1 rfl rfl rfl (PV_not rfl rfl) ?_
      refine RL.p rfl rfl rfl (PV_pickT rfl rfl g1 rfl) ?_
      refine RL.p rfl rfl rfl (PV_move rfl rfl) ?_
      refine RL.split 31 rfl (fun g2 => ?_) (fun g2 => by cases g2)
      refine RL.gp rfl rfl rfl rfl g2 rfl rfl rfl (PV_move rfl rfl) ?_
      refine RL.gp rfl rfl rfl rfl g2 rfl rfl rfl (PV_leq rfl rfl rfl) ?_
      refine RL.p rfl rfl rfl (PV_pickT rfl rfl g2 rfl) ?_
      exact RL.done (cut_end (F := (fun b : Bool => [(34, .bool b), (7, .int .i64 (i : Int)), (6, .int .i64 1), (5, ptr b5 0), (2, ptr b2 0), (4, ptr xb 0), (0, p), (3, .int .i64 0)])) (J := (fun b w => (b = true → i < 1) ∧ (b = false → 1 ≤ i) ∧ Sat G (L ++ (xb, [y, .bool false], 209) :: (b5, [.int .i64 ver, .int .i64 e, kv], 48) :: (b2, zl48, 48) :: M) J9 w)) _ (by repeat first | exact Sub.nil | refine Sub.cons rfl ?_) (by exact (by first | exact ⟨fun _ => (by have := of_decide_eq_true g1; omega), fun h => absurd (of_decide_eq_false h) (by omega), hs9⟩ | exact ⟨fun h => (by cases h), fun _ => (by have := of_decide_eq_false g1; omega), hs9⟩)))
    ·
      refine RL.gk rfl rfl rfl rfl g1 rfl rfl rfl ?_
      refine RL.gk rfl rfl rfl rfl g1 rfl rfl rfl ?_
      refine RL.gk rfl rfl rfl rfl g1 rfl rfl rfl ?_
      refine RL.gk rfl rfl rfl rfl g1 rfl rfl rfl ?_
      refine RL.gk rfl rfl rfl rfl g1 rfl rfl rfl ?_
      refine RL.p rfl rfl rfl (PV_pickF rfl rfl g1 rfl) ?_
      refine RL.p rfl rfl rfl (PV_move rfl rfl) ?_
      refine RL.gk rfl rfl rfl rfl rfl rfl rfl rfl ?_
      refine RL.gk rfl rfl rfl rfl rfl rfl rfl rfl ?_
      refine RL.p rfl rfl rfl (PV_pickF rfl rfl rfl rfl) ?_
      exact RL.done (cut_end (F := (fun b : Bool => [(34, .bool b), (7, .int .i64 (i : Int)), (6, .int .i64 1), (5, ptr b5 0), (2, ptr b2 0), (4, ptr xb 0), (0, p), (3, .int .i64 0)])) (J := (fun b w => (b = true → i < 1) ∧ (b = false → 1 ≤ i) ∧ Sat G (L ++ (xb, [y, .bool false], 209) :: (b5, [.int .i64 ver, .int .i64 e, kv], 48) :: (b2, zl48, 48) :: M) J9 w)) _ (by repeat first | exact Sub.nil | refine Sub.cons rfl ?_) (by exact (by first | exact ⟨fun _ => (by have := of_decide_eq_true g1; omega), fun h => absurd (of_decide_eq_false h) (by omega), hs9⟩ | exact ⟨fun h => (by cases h), fun _ => (by have := of_decide_eq_false g1; omega), hs9⟩)))
  rintro bg w109 ⟨hT, hF, hs109⟩
  refine nxt ?_
  repeat first | apply W.seq | apply W.region
  refine W.cond rfl (fun h1 => ?_) (fun h1 => ?_)
  ·
    obtain rfl : i = 0 := by have := hT h1; omega
    replace hy : SlB J9 y (rowB (sbytes s) ++ (nums [x] ++ [])) := hy
    replace ho : OwnS 98 2 kv [] L := ho
    refine W.skip (nxt ?_)
    repeat first | apply W.seq | apply W.region
    refine W.block ?_
    repeat first | apply W.seq | apply W.region
    refine RL.p rfl rfl rfl (PV_move rfl rfl) ?_
    refine RL.e rfl rfl rfl (K1 rfl fn127 rfl (C127 (by omega) (by first | omega | (simp only [List.length_append, List.length_nil] at *; omega)) hy hs109.unmid)) ?_
    rintro r110 w110 ⟨J110, v110, hj110, rfl, hv110, hs110⟩
    refine RL.p rfl rfl rfl (PV_buildS (cs := [.string s, .int .i64 0]) rfl pl98 zr98 rfl rfl) ?_
    refine RL.e rfl rfl rfl (EF_allocA rfl zr98 hs110) ?_
    rintro r111 w111 ⟨b8, rfl, hs111⟩
    refine RL.e0 rfl rfl (EF_storeA (cs := zl98) rfl rfl rfl sz98 rfl rfl hs111 (by first | exact u0 | exact u1 | exact u2 | exact u3 | exact u4 | exact u5 | exact u0.app | exact u1.app | exact u2.app | exact u3.app)) ?_
    rintro r112 w112 hs112
    refine RL.done (nxt ?_)
    repeat first | apply W.seq | apply W.region
    refine RL.p rfl rfl rfl (PV_move rfl rfl) ?_
    refine RL.e rfl rfl rfl (K1 rfl fn119 rfl (C119n (by omega) (by omega) (by first | omega | (simp only [List.length_append, List.length_nil] at *; omega)) hv110 hs112.sw)) ?_
    rintro r113 w113 ⟨J113, v113, hj113, rfl, hv113, hs113⟩
    refine RL.p rfl rfl rfl (by first | exact PV_fieldAddr0 rfl rfl fa98_1 | exact PV_fieldAddr rfl rfl fa98_1) ?_
    refine RL.e0 rfl rfl (EF_storeC (cs := [.string s, .int .i64 0]) rfl rfl rfl sz3 rfl (by first | (rw [length_tc h32 ]; decide) | (rw [length_tc rfl]; decide) | decide | simp) (cs' := [.string s, .int .i64 x]) rfl hs113 (by first | exact u0 | exact u1 | exact u2 | exact u3 | exact u4 | exact u5 | exact u0.app | exact u1.app | exact u2.app | exact u3.app)) ?_
    rintro r114 w114 hs114
    refine RL.done (nxt ?_)
    repeat first | apply W.seq | apply W.region
    refine RL.p rfl rfl rfl (by first | exact PV_fieldAddr0 rfl rfl fa48_2 | exact PV_fieldAddr rfl rfl fa48_2) ?_
    refine RL.s rfl rfl rfl (PV_loadM1 rfl ag46 rfl (.tail _ (.tail _ (mapp m0))) rfl) hs114 ?_
    refine RL.s rfl rfl rfl (PV_loadMA (r := [.string s, .int .i64 x]) rfl ag98 sz98 rfl m1 (by simp) rfl) hs114 ?_
    refine RL.e rfl rfl rfl (EF_bs1a rfl el46 rfl (by simp; rfl) (by decide) hs114) ?_
    rintro r115 w115 ⟨b46, rfl, hs115⟩
    refine RL.e rfl rfl rfl (EF_append (l := 0) (m := 1) (olds := []) (news := [.string s, .int .i64 x]) rfl el46 rfl rfl ho rfl (rdW (m := 1) hs115 m0 rfl (Nat.le_refl _)) rfl (by omega) (by decide) hs115.mid3) ?_
    rintro r116 w116 ⟨L116, ho116, hs116⟩
    refine RL.p rfl rfl rfl (by first | exact PV_fieldAddr0 rfl rfl fa48_2 | exact PV_fieldAddr rfl rfl fa48_2) ?_
    refine RL.e0 rfl rfl (EF_storeC (cs := [.int .i64 ver, .int .i64 e, kv]) rfl rfl rfl sz46 ho116.cell (by simp) rfl hs116 (by first | exact u0 | exact u1 | exact u2 | exact u3 | exact u4 | exact u5 | exact u0.app | exact u1.app | exact u2.app | exact u3.app)) ?_
    rintro r117 w117 hs117
    refine RL.done (nxt ?_)
    repeat first | apply W.seq | apply W.region
    refine RL.p rfl rfl rfl (PV_move rfl rfl) ?_
    refine RL.p rfl rfl rfl (PV_add rfl rfl rfl (by omega)) ?_
    refine RL.p rfl rfl rfl (PV_assign rfl rfl) ?_
    refine RL.done (round_end 1 ?_ ?_ ?_)
    · repeat first | exact Sub.nil | refine Sub.cons rfl ?_
    · exact ⟨by omega, J113, v113, r116, L116, (hj9.trans hj110).trans hj113, hv113, ho116, (hs117.del (Del.app x0)).del (Del.app x1)⟩
    · first | omega | (dsimp only; omega)
  repeat first | apply W.seq | apply W.region
  obtain rfl : i = 1 := by have := hF h1; omega
  replace hy : SlB J9 y [] := hy
  replace ho : OwnS 98 2 kv [.string s, .int .i64 x] L := ho
  refine  W.exit (nxt ?_)
  repeat first | apply W.seq | apply W.region
  refine RL.s rfl rfl rfl (PV_loadMA (r := [.int .i64 ver, .int .i64 e, kv]) rfl ag48 sz48 rfl (mapp m1) (by simp) rfl) hs109 ?_
  refine RL.e rfl rfl rfl (K1 rfl fn128 rfl (C128 hn hx hver he (ho.toM (m := 1) rfl (by decide)) hs109)) ?_
  rintro r110 w110 ⟨J110, u110, L110, hj110, rfl, ho110, hs110⟩
  refine RL.p rfl rfl rfl (PV_move rfl rfl) ?_
  refine RL.p rfl rfl rfl (PV_extract rfl rfl rfl) ?_
  refine RL.p rfl rfl rfl (PV_extract rfl rfl rfl) ?_
  refine RL.p rfl rfl rfl (PV_assign rfl rfl) ?_
  refine RL.p rfl rfl rfl (PV_assign rfl rfl) ?_
  refine RL.done (nxt ?_)
  repeat first | apply W.seq | apply W.region
  refine RL.p rfl rfl rfl (PV_move rfl rfl) ?_
  refine RL.p rfl rfl rfl (PV_move rfl rfl) ?_
  refine RL.p rfl rfl rfl (PV_move rfl rfl) ?_
  refine RL.p rfl rfl rfl (PV_move rfl rfl) ?_
  refine RL.e rfl rfl rfl (K4 rfl fn122 rfl rfl rfl rfl (C122 (hy.le hj110) (hq.le (hj9.trans hj110)).toM ((ho110.toM (by rw [length_bcells]; exact (Nat.mul_one _).symm) (by decide)).mono fun _ h => h.remid2) hs110.unmid2)) ?_
  rintro r111 w111 ⟨rfl, hs111⟩
  replace hs111 := hs111.dropu.mid
  refine RL.p rfl rfl rfl (PV_not rfl rfl) ?_
  refine RL.done (nxt ?_)
  repeat first | apply W.seq | apply W.region
  refine W.cond rfl (fun h2 => ?_) (fun h2 => ?_)
  · cases h2
  refine W.skip (nxt ?_)
  repeat first | apply W.seq | apply W.region
  refine RL.s rfl rfl rfl (PV_loadMA (r := [.int .i64 ver, .int .i64 e, kv]) rfl ag48 sz48 rfl (mapp m1) (by simp) rfl) hs111 ?_
  refine RL.e0 rfl rfl (EF_storeA (cs := zl48) rfl rfl rfl sz48 rfl (by rw [one1_cons, one1_cons, one1_cons, one1_nil, ho.cell]; rfl) hs111 (by first | exact u0 | exact u1 | exact u2 | exact u3 | exact u4 | exact u5 | exact u0.app | exact u1.app | exact u2.app | exact u3.app)) ?_
  rintro r112 w112 hs112
  refine RL.p rfl rfl rfl (PV_assign rfl rfl) ?_
  refine RL.done (nxt ?_)
  repeat first | apply W.seq | apply W.region
  obtain ⟨J12, hj12, hk12, hs13⟩ := OwnS.freeze (m := 1) ho rfl (by decide) hs112
  exact  W.ret (ret_cell2 rfl rfl rfl (ldA ag48 sz48 hs112 (mapp m2) rfl) ⟨_, rfl, J12, kv, (hj9.trans hj110).trans hj12, rfl, hk12, hs13.tail.tail.tail⟩) --hs112.tail.tail⟩)

theorem C85 {p : Value} {s : ByteArray} {ver e : Int} {K : List Tgt} (hok : ∀ t ∈ K, t.ok) (h : targetsB s ver e K = true) (hp : SlB I p (nums [4] ++ targetsE s ver e K)) (hs : Sat G M I w) : Calls Tryz.prog 85 #[p] w (Ret fun r w' => ∃ J lv, Le I J ∧ r = .tuple #[aggL [.string s, .int .i64 ver, .int .i64 e, lv, .slice none 0 0], .int .i64 0] ∧ SlI J 37 lv K.length (lcells K) ∧ Sat G M J w') := by
  obtain ⟨hn, hver, he, h16, htg, hbef⟩ := targets_in h
  have hvv := version_in hver
  have hee := num_in he
  have hnl := name_len hn
  have htB : ∀ t ∈ K, targetB t = true := fun t ht => by
    obtain ⟨j, hj⟩ := List.mem_iff_getElem?.1 ht
    exact htg j t hj
  have e0 := len_row hnl
  have e1 := len_num (x := 4) (by decide) (by decide)
  have e2 := len_num (x := ver) (by omega) (by omega)
  have e3 := len_num (x := e) (by omega) (by omega)
  have e4 := len_num (x := (K.length : Int)) (by omega) (by omega)
  have e5 := len_num (x := 0) (by decide) (by decide)
  have e6 := len_targets hok htB
  have hq := hp
  rw [targets_split] at hp
  have hl : (nums [4] ++ (rowB (sbytes s) ++ (nums [ver] ++ (nums [e] ++ (nums [(K.length : Int)] ++ (K.flatMap targetE ++ (nums [0] ++ []))))))).length ≤ 2 ^ 40 := by simp only [List.length_append, List.length_nil]; omega
  refine enter1 Tryz.func85 rfl Tryz.ntmps85 rfl ?_
  repeat first | apply W.seq | apply W.region
  refine RL.e rfl rfl rfl (EF_allocA rfl zr70 hs) ?_
  rintro r1 w1 ⟨b2, rfl, hs1⟩
  refine RL.p rfl rfl rfl (PV_assign rfl rfl) ?_
  refine RL.done (nxt ?_)
  repeat first | apply W.seq | apply W.region
  refine RL.p rfl rfl rfl (PV_move rfl rfl) ?_
  refine RL.e rfl rfl rfl (K2 rfl fn118 rfl rfl (C118n (by omega) (by omega) hl hp hs1)) ?_
  rintro r2 w2 ⟨J2, xb, v2, hj2, rfl, hv2, hs2⟩
  refine RL.p rfl rfl rfl (PV_assign rfl rfl) ?_
  refine RL.done (nxt ?_)
  repeat first | apply W.seq | apply W.region
  refine RL.p rfl rfl rfl (PV_move rfl rfl) ?_
  refine RL.e rfl rfl rfl (K1 rfl fn127 rfl (C127 (by omega) (by first | omega | (simp only [List.length_append, List.length_nil] at *; omega)) hv2 hs2)) ?_
  rintro r3 w3 ⟨J3, v3, hj3, rfl, hv3, hs3⟩
  refine RL.p rfl rfl rfl (PV_buildS (cs := [.string s, .int .i64 0, .int .i64 0, .slice none 0 0, .slice none 0 0]) rfl pl70 zr70 rfl rfl) ?_
  refine RL.e rfl rfl rfl (EF_allocA rfl zr70 hs3) ?_
  rintro r4 w4 ⟨b5, rfl, hs4⟩
  refine RL.e0 rfl rfl (EF_storeA (cs := zl70) rfl rfl rfl sz70 rfl rfl hs4 (by first | exact u0 | exact u1 | exact u2 | exact u3 | exact u4 | exact u5 | exact u0.app | exact u1.app | exact u2.app | exact u3.app)) ?_
  rintro r5 w5 hs5
  refine RL.done (nxt ?_)
  repeat first | apply W.seq | apply W.region
  refine RL.p rfl rfl rfl (PV_move rfl rfl) ?_
  refine RL.e rfl rfl rfl (K1 rfl fn119 rfl (C119n (by omega) (by omega) (by first | omega | (simp only [List.length_append, List.length_nil] at *; omega)) hv3 hs5.sw)) ?_
  rintro r6 w6 ⟨J6, v6, hj6, rfl, hv6, hs6⟩
  refine RL.p rfl rfl rfl (by first | exact PV_fieldAddr0 rfl rfl fa70_1 | exact PV_fieldAddr rfl rfl fa70_1) ?_
  refine RL.e0 rfl rfl (EF_storeC (cs := [.string s, .int .i64 0, .int .i64 0, .slice none 0 0, .slice none 0 0]) rfl rfl rfl sz3 rfl (by first | (rw [length_tc h32 ]; decide) | (rw [length_tc rfl]; decide) | decide | simp) (cs' := [.string s, .int .i64 ver, .int .i64 0, .slice none 0 0, .slice none 0 0]) rfl hs6 (by first | exact u0 | exact u1 | exact u2 | exact u3 | exact u4 | exact u5 | exact u0.app | exact u1.app | exact u2.app | exact u3.app)) ?_
  rintro r7 w7 hs7
  refine RL.done (nxt ?_)
  repeat first | apply W.seq | apply W.region
  refine RL.p rfl rfl rfl (PV_move rfl rfl) ?_
  refine RL.e rfl rfl rfl (K1 rfl fn119 rfl (C119n (by omega) (by omega) (by first | omega | (simp only [List.length_append, List.length_nil] at *; omega)) hv6 hs7)) ?_
  rintro r8 w8 ⟨J8, v8, hj8, rfl, hv8, hs8⟩
  refine RL.p rfl rfl rfl (by first | exact PV_fieldAddr0 rfl rfl fa70_2 | exact PV_fieldAddr rfl rfl fa70_2) ?_
  refine RL.e0 rfl rfl (EF_storeC (cs := [.string s, .int .i64 ver, .int .i64 0, .slice none 0 0, .slice none 0 0]) rfl rfl rfl sz3 rfl (by first | (rw [length_tc h32 ]; decide) | (rw [length_tc rfl]; decide) | decide | simp) (cs' := [.string s, .int .i64 ver, .int .i64 e, .slice none 0 0, .slice none 0 0]) rfl hs8 (by first | exact u0 | exact u1 | exact u2 | exact u3 | exact u4 | exact u5 | exact u0.app | exact u1.app | exact u2.app | exact u3.app)) ?_
  rintro r9 w9 hs9
  refine RL.done (nxt ?_)
  repeat first | apply W.seq | apply W.region
  refine RL.p rfl rfl rfl (PV_move rfl rfl) ?_
  refine RL.e rfl rfl rfl (K1 rfl fn119 rfl (C119n (by omega) (by omega) (by first | omega | (simp only [List.length_append, List.length_nil] at *; omega)) hv8 hs9)) ?_
  rintro r10 w10 ⟨J10, v10, hj10, rfl, hv10, hs10⟩
  refine RL.p rfl rfl rfl (PV_assign rfl rfl) ?_
  refine RL.done (nxt ?_)
  repeat first | apply W.seq | apply W.region
  refine RL.p rfl rfl rfl (PV_assign rfl rfl) ?_
  refine RL.done (nxt ?_)
  repeat first | apply W.seq | apply W.region
  refine W.block ?_
  repeat first | apply W.seq | apply W.region
  refine W.loop (F := fun i : Nat => [(7, .int .i64 (i : Int)), (6, .int .i64 (K.length : Int)), (5, ptr b5 0), (2, ptr b2 0), (4, ptr xb 0), (0, p), (3, .int .i64 0)]) (J := fun i w => i ≤ K.length ∧ ∃ J y lv L, Le I J ∧ SlB J y ((K.drop i).flatMap targetE ++ (nums [0] ++ [])) ∧ OwnS 26 37 lv (lcells (K.take i)) L ∧ Sat G (L ++ (xb, [y, .bool false], 209) :: (b5, [.string s, .int .i64 ver, .int .i64 e, lv, .slice none 0 0], 70) :: (b2, zl70, 70) :: M) J w) (m := fun i => K.length - i) 0 (by repeat first | exact Sub.nil | refine Sub.cons rfl ?_) ⟨by omega, J10, v10, .slice none 0 0, [], (((hj2.trans hj3).trans hj6).trans hj8).trans hj10, hv10, OwnS.nil, hs10⟩ ?_
  rintro i w11 ⟨hi, J11, y, lv, L, hj11, hy, ho, hs11⟩
  repeat refine W.seq ?_
  refine W.cut (fun b : Bool => [(37, .bool b), (7, .int .i64 (i : Int)), (6, .int .i64 (K.length : Int)), (5, ptr b5 0), (2, ptr b2 0), (4, ptr xb 0), (0, p), (3, .int .i64 0)]) (fun b w => (b = true → i < K.length) ∧ (b = false → K.length ≤ i) ∧ Sat G (L ++ (xb, [y, .bool false], 209) :: (b5, [.string s, .int .i64 ver, .int .i64 e, lv, .slice none 0 0], 70) :: (b2, zl70, 70) :: M) J11 w) ?_ ?_
  ·
    refine W.region ?_
    refine RL.p rfl rfl rfl (PV_move rfl rfl) ?_
    refine RL.p rfl rfl rfl (PV_move rfl rfl) ?_
    refine RL.p rfl rfl rfl (PV_lss rfl rfl rfl) ?_
    refine RL.p rfl rfl rfl (PV_move rfl rfl) ?_
    refine RL.split 27 rfl (fun g1 => ?_) (fun g1 => ?_)
    ·
      refine RL.gp rfl rfl rfl rfl g1 rfl rfl rfl (PV_move rfl rfl) ?_
      refine RL.gp rfl rfl rfl rfl g1 rfl rfl rfl (PV_nilCheckP rfl rfl) ?_
      refine RL.gp rfl rfl rfl rfl g1 rfl rfl rfl (by first | exact PV_fieldAddr0 rfl rfl fa209_1 | exact PV_fieldAddr rfl rfl fa209_1) ?_
      refine RL.gs rfl rfl rfl rfl g1 rfl rfl rfl (PV_loadM1 rfl ag4 rfl (by first | exact m0 | exact m1 | exact m2 | exact m3 | exact m4 | exact m5 | exact mapp m0 | exact mapp m1 | exact mapp m2 | exact mapp m3) (by first | exact tc_34 | exact tc_35 | exact tc_36 | exact tc_0 | exact tc_1 | rfl)) hs11 ?_
      refine RL.gp rfl rfl rfl rfl g1 rfl rfl rfl (PV_not rfl rfl) ?_
      refine RL.p rfl rfl rfl (PV_pickT rfl rfl g1 rfl) ?_
      refine RL.p rfl rfl rfl (PV_move rfl rfl) ?_
      refine RL.split 34 rfl (fun g2 => ?_) (fun g2 => by cases g2)
      refine RL.gp rfl rfl rfl rfl g2 rfl rfl rfl (PV_move rfl rfl) ?_
      refine RL.gp rfl rfl rfl rfl g2 rfl rfl rfl (PV_leq rfl rfl rfl) ?_
      refine RL.p rfl rfl rfl (PV_pickT rfl rfl g2 rfl) ?_
      exact RL.done (cut_end (F := (fun b : Bool => [(37, .bool b), (7, .int .i64 (i : Int)), (6, .int .i64 (K.length : Int)), (5, ptr b5 0), (2, ptr b2 0), (4, ptr xb 0), (0, p), (3, .int .i64 0)])) (J := (fun b w => (b = true → i < K.length) ∧ (b = false → K.length ≤ i) ∧ Sat G (L ++ (xb, [y, .bool false], 209) :: (b5, [.string s, .int .i64 ver, .int .i64 e, lv, .slice none 0 0], 70) :: (b2, zl70, 70) :: M) J11 w)) _ (by repeat first | exact Sub.nil | refine Sub.cons rfl ?_) (by exact (by first | exact ⟨fun _ => (by have := of_decide_eq_true g1; omega), fun h => absurd (of_decide_eq_false h) (by omega), hs11⟩ | exact ⟨fun h => (by cases h), fun _ => (by have := of_decide_eq_false g1; omega), hs11⟩)))
    ·
      refine RL.gk rfl rfl rfl rfl g1 rfl rfl rfl ?_
      refine RL.gk rfl rfl rfl rfl g1 rfl rfl rfl ?_
      refine RL.gk rfl rfl rfl rfl g1 rfl rfl rfl ?_
      refine RL.gk rfl rfl rfl rfl g1 rfl rfl rfl ?_
      refine RL.gk rfl rfl rfl rfl g1 rfl rfl rfl ?_
      refine RL.p rfl rfl rfl (PV_pickF rfl rfl g1 rfl) ?_
      refine RL.p rfl rfl rfl (PV_move rfl rfl) ?_
      refine RL.gk rfl rfl rfl rfl rfl rfl rfl rfl ?_
      refine RL.gk rfl rfl rfl rfl rfl rfl rfl rfl ?_
      refine RL.p rfl rfl rfl (PV_pickF rfl rfl rfl rfl) ?_
      exact RL.done (cut_end (F := (fun b : Bool => [(37, .bool b), (7, .int .i64 (i : Int)), (6, .int .i64 (K.length : Int)), (5, ptr b5 0), (2, ptr b2 0), (4, ptr xb 0), (0, p), (3, .int .i64 0)])) (J := (fun b w => (b = true → i < K.length) ∧ (b = false → K.length ≤ i) ∧ Sat G (L ++ (xb, [y, .bool false], 209) :: (b5, [.string s, .int .i64 ver, .int .i64 e, lv, .slice none 0 0], 70) :: (b2, zl70, 70) :: M) J11 w)) _ (by repeat first | exact Sub.nil | refine Sub.cons rfl ?_) (by exact (by first | exact ⟨fun _ => (by have := of_decide_eq_true g1; omega), fun h => absurd (of_decide_eq_false h) (by omega), hs11⟩ | exact ⟨fun h => (by cases h), fun _ => (by have := of_decide_eq_false g1; omega), hs11⟩)))
  rintro bg w111 ⟨hT, hF, hs111⟩
  refine nxt ?_
  repeat first | apply W.seq | apply W.region
  refine W.cond rfl (fun h1 => ?_) (fun h1 => ?_)
  ·
    have hi1 : i < K.length := hT h1
    obtain ⟨t, hte⟩ : ∃ t, t = K[i] := ⟨_, rfl⟩
    have htk : t ∈ K := by rw [hte]; exact List.getElem_mem hi1
    have e7 := len_target (hok t htk) (htB t htk)
    have e8 := len_targets (K := K.drop (i + 1)) (fun t ht => hok t (List.mem_of_mem_drop ht)) (fun t ht => htB t (List.mem_of_mem_drop ht))
    rw [List.length_drop] at e8
    rw [List.drop_eq_getElem_cons hi1, ← hte, List.flatMap_cons, List.append_assoc] at hy
    refine W.skip (nxt ?_)
    repeat first | apply W.seq | apply W.region
    refine W.block ?_
    repeat first | apply W.seq | apply W.region
    refine W.drawsH hs111.drop.tail [(0, true), (1, true), (2, false), (3, false), (4, false), (5, false), (6, false), (7, false)] mixed (by kernel_rfl) (by kernel_rfl) ?_
    have hs112 := hs111.drew
    refine TW.p rfl rfl rfl rfl (by first | exact PV_fieldAddr0 rfl rfl fa70_3 | exact PV_fieldAddr rfl rfl fa70_3) (hs112.drop.tail) ?_
    refine TW.s rfl rfl rfl rfl (PV_loadM1 rfl ag22 rfl (by first | exact m0 | exact m1 | exact m2 | exact m3 | exact m4 | exact m5 | exact mapp m0 | exact mapp m1 | exact mapp m2 | exact mapp m3) (by first | exact tc_34 | exact tc_35 | exact tc_36 | exact tc_0 | exact tc_1 | rfl)) (hs112.drop.tail) ?_
    refine TW.q rfl rfl rfl rfl (T := fun _ => True) (PV_move rfl rfl) trivial (fun _ => (hs112.drop.tail)) ?_
    refine TW.e rfl rfl rfl rfl (K1 rfl fn131 rfl (C131 (htB t htk) (by first | omega | (simp only [List.length_append, List.length_nil] at *; omega)) hy hs112.unmid)) ?_
    rintro r113 w113 ⟨J113, v113, hj113, rfl, hv113, hs113⟩
    refine ⟨(hs113.tail.drop.le hj113), ?_⟩
    refine TW.e rfl rfl rfl rfl (EF_bs1a rfl el22 rfl (by rw [length_tcells]; rfl) (by decide) hs113) ?_
    rintro r114 w114 ⟨b44, rfl, hs114⟩
    refine ⟨(hs114.tail.tail.drop.le hj113), ?_⟩
    refine TW.e rfl rfl rfl rfl (EF_append (l := i) (m := 1) (olds := lcells (K.take i)) (news := tcells t) rfl el22 rfl rfl ho (by rw [length_lcells, List.length_take, Nat.min_eq_left hi]; rfl) (rdW (m := 1) hs114 m0 (by rw [length_tcells]; rfl) (Nat.le_refl _)) (one1_tcells _) (by omega) (by decide) hs114.mid2) ?_
    rintro r115 w115 ⟨L115, ho115, hs115⟩
    refine ⟨(hs115.drop.tail.tail.le hj113), ?_⟩
    refine TW.qn rfl rfl rfl rfl (T := fun _ => True) (by first | exact PV_fieldAddr0 rfl rfl fa70_3 | exact PV_fieldAddr rfl rfl fa70_3) trivial (by kernel_rfl) ?_
    refine TW.en0 rfl rfl rfl (by kernel_rfl) (EF_storeC (cs := [.string s, .int .i64 ver, .int .i64 e, lv, .slice none 0 0]) rfl rfl rfl sz22 ho115.cell (by simp) rfl hs115 (by first | exact u0 | exact u1 | exact u2 | exact u3 | exact u4 | exact u5 | exact u0.app | exact u1.app | exact u2.app | exact u3.app)) ?_
    rintro r116 w116 hs116
    refine TW.done (nxt ?_)
    repeat first | apply W.seq | apply W.region
    refine RL.p rfl rfl rfl (PV_move rfl rfl) ?_
    refine RL.p rfl rfl rfl (PV_add rfl rfl rfl (by omega)) ?_
    refine RL.p rfl rfl rfl (PV_assign rfl rfl) ?_
    refine RL.done (round_end (i + 1) ?_ ?_ ?_)
    · repeat first | exact Sub.nil | refine Sub.cons rfl ?_
    · exact ⟨by omega, J113, v113, r115, L115, hj11.trans hj113, hv113, by rw [List.take_succ_eq_append_getElem hi1, lcells_app, ← hte]; exact ho115, hs116.del (Del.app x0)⟩
    · first | omega | (dsimp only; omega)
  repeat first | apply W.seq | apply W.region
  obtain rfl : i = K.length := by have := hF h1; omega
  rw [List.drop_length, List.flatMap_nil, List.nil_append] at hy
  rw [List.take_length] at ho
  refine  W.exit (nxt ?_)
  repeat first | apply W.seq | apply W.region
  refine RL.p rfl rfl rfl (PV_move rfl rfl) ?_
  refine RL.e rfl rfl rfl (K1 rfl fn119 rfl (C119n (by omega) (by omega) (by first | omega | (simp only [List.length_append, List.length_nil] at *; omega)) hy hs111.unmid)) ?_
  rintro r112 w112 ⟨J112, v112, hj112, rfl, hv112, hs112⟩
  refine RL.p rfl rfl rfl (PV_assign rfl rfl) ?_
  refine RL.done (nxt ?_)
  repeat first | apply W.seq | apply W.region
  refine RL.p rfl rfl rfl (PV_assign rfl rfl) ?_
  refine RL.done (nxt ?_)
  repeat first | apply W.seq | apply W.region
  refine W.block ?_
  repeat first | apply W.seq | apply W.region
  refine W.loop (F := fun _ : Unit => [(8, .int .i64 0), (6, .int .i64 0), (5, ptr b5 0), (2, ptr b2 0), (4, ptr xb 0), (0, p), (3, .int .i64 0)]) (J := fun _ w => Sat G ((xb, [v112, .bool false], 209) :: (L ++ (b5, [.string s, .int .i64 ver, .int .i64 e, lv, .slice none 0 0], 70) :: (b2, zl70, 70) :: M)) J112 w) (m := fun _ => 0) () (by repeat first | exact Sub.nil | refine Sub.cons rfl ?_) hs112 ?_
  rintro _ w113 hs113
  repeat first | apply W.seq | apply W.region
  refine RL.p rfl rfl rfl (PV_move rfl rfl) ?_
  refine RL.p rfl rfl rfl (PV_move rfl rfl) ?_
  refine RL.p rfl rfl rfl (PV_lss rfl rfl rfl) ?_
  refine RL.p rfl rfl rfl (PV_move rfl rfl) ?_
  refine RL.split 52 rfl (fun g3 => by exact absurd (of_decide_eq_true g3) (by decide)) (fun g3 => ?_)
  refine RL.gk rfl rfl rfl rfl g3 rfl rfl rfl ?_
  refine RL.gk rfl rfl rfl rfl g3 rfl rfl rfl ?_
  refine RL.gk rfl rfl rfl rfl g3 rfl rfl rfl ?_
  refine RL.gk rfl rfl rfl rfl g3 rfl rfl rfl ?_
  refine RL.gk rfl rfl rfl rfl g3 rfl rfl rfl ?_
  refine RL.p rfl rfl rfl (PV_pickF rfl rfl g3 rfl) ?_
  refine RL.p rfl rfl rfl (PV_move rfl rfl) ?_
  refine RL.gk rfl rfl rfl rfl rfl rfl rfl rfl ?_
  refine RL.gk rfl rfl rfl rfl rfl rfl rfl rfl ?_
  refine RL.p rfl rfl rfl (PV_pickF rfl rfl rfl rfl) ?_
  refine RL.done (nxt ?_)
  repeat first | apply W.seq | apply W.region
  refine W.cond rfl (fun h2 => ?_) (fun h2 => ?_)
  · cases h2
  repeat first | apply W.seq | apply W.region
  refine W.exit (nxt ?_)
  repeat first | apply W.seq | apply W.region
  refine RL.s rfl rfl rfl (PV_loadMA (r := [.string s, .int .i64 ver, .int .i64 e, lv, .slice none 0 0]) rfl ag70 sz70 rfl (.tail _ (mapp m0)) (by simp) rfl) hs113 ?_
  refine RL.e rfl rfl rfl (K1 rfl fn133 rfl (C133 hok h ((ho.toM (length_lcells K) (by decide)).mono fun _ h => h.mid) hs113)) ?_
  rintro r114 w114 ⟨J114, u114, L114, hj114, rfl, ho114, hs114⟩
  refine RL.p rfl rfl rfl (PV_move rfl rfl) ?_
  refine RL.p rfl rfl rfl (PV_extract rfl rfl rfl) ?_
  refine RL.p rfl rfl rfl (PV_extract rfl rfl rfl) ?_
  refine RL.p rfl rfl rfl (PV_assign rfl rfl) ?_
  refine RL.p rfl rfl rfl (PV_assign rfl rfl) ?_
  refine RL.done (nxt ?_)
  repeat first | apply W.seq | apply W.region
  refine RL.p rfl rfl rfl (PV_move rfl rfl) ?_
  refine RL.p rfl rfl rfl (PV_move rfl rfl) ?_
  refine RL.p rfl rfl rfl (PV_move rfl rfl) ?_
  refine RL.p rfl rfl rfl (PV_move rfl rfl) ?_
  refine RL.e rfl rfl rfl (K4 rfl fn122 rfl rfl rfl rfl (C122 (hv112.le hj114) (hq.le ((hj11.trans hj112).trans hj114)).toM ((ho114.toM (by rw [length_bcells]; exact (Nat.mul_one _).symm) (by decide)).mono fun _ h => h.mid) hs114.unmid)) ?_
  rintro r115 w115 ⟨rfl, hs115⟩
  replace hs115 := hs115.dropu.mid
  refine RL.p rfl rfl rfl (PV_not rfl rfl) ?_
  refine RL.done (nxt ?_)
  repeat first | apply W.seq | apply W.region
  refine W.cond rfl (fun h3 => ?_) (fun h3 => ?_)
  · cases h3
  refine W.skip (nxt ?_)
  repeat first | apply W.seq | apply W.region
  refine RL.s rfl rfl rfl (PV_loadMA (r := [.string s, .int .i64 ver, .int .i64 e, lv, .slice none 0 0]) rfl ag70 sz70 rfl (mapp m1) (by simp) rfl) hs115 ?_
  refine RL.e0 rfl rfl (EF_storeA (cs := zl70) rfl rfl rfl sz70 rfl (by rw [one1_cons, one1_cons, one1_cons, one1_cons, one1_cons, one1_nil, ho.cell]; rfl) hs115 (by first | exact u0 | exact u1 | exact u2 | exact u3 | exact u4 | exact u5 | exact u0.app | exact u1.app | exact u2.app | exact u3.app)) ?_
  rintro r116 w116 hs116
  refine RL.p rfl rfl rfl (PV_assign rfl rfl) ?_
  refine RL.done (nxt ?_)
  repeat first | apply W.seq | apply W.region
  obtain ⟨J17, hj17, hk17, hs17⟩ := OwnS.freeze (m := K.length) ho (length_lcells K) (by decide) hs116
  exact  W.ret (ret_cell2 rfl rfl rfl (ldA ag70 sz70 hs116 (mapp m2) rfl) ⟨_, rfl, J17, lv, ((hj11.trans hj112).trans hj114).trans hj17, rfl, hk17, hs17.tail.tail.tail⟩) --hs116.tail.tail⟩)

end Go.Proofs.YtecbpmgfikgoaaaGreatDoor
