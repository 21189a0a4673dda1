/- Walks of functions 145 121 124 128 155 133: what each call gives back, and that it writes nothing of anybody else's. Conditions: as each theorem says. -/
import Derived.Test.YtecbpmgfikgoaaaGreatDoorX7
set_option linter.unusedVariables false
set_option linter.unusedSimpArgs false
set_option maxRecDepth 8000
set_option maxHeartbeats 4000000
namespace Go.Proofs.YtecbpmgfikgoaaaGreatDoor
open Go Go.RowKit
variable {G w : World} {M : List Chunk} {I : Imm}

theorem len_nums {l : List Int} (h : ∀ x, x ∈ l → 0 ≤ x ∧ x < 2 ^ 40) : (nums l).length ≤ 6 * l.length := length_nums40 fun x hx => ⟨x.toNat, by have := h x hx; omega, by have := h x hx; omega⟩
theorem len_num {x : Int} (h0 : 0 ≤ x) (h1 : x < 2 ^ 40) : (nums [x]).length ≤ 6 := len_nums (l := [x]) fun y hy => by
  obtain rfl : y = x := by simpa using hy
  exact ⟨h0, h1⟩
theorem len_row {s : ByteArray} (h : s.size ≤ 12) : (rowB (sbytes s)).length ≤ 18 := by
  have h2 := len_num (x := ((sbytes s).length : Int)) (by omega) (by rw [length_sbytes]; omega)
  rw [rowB, List.length_append]
  rw [length_sbytes] at *
  omega
theorem name_len {s : ByteArray} (h : nameB s = true) : s.size ≤ 12 := (name_signs h).2.1
theorem empty_len {s : ByteArray} (h : s.toList = (⟨#[]⟩ : ByteArray).toList) : s.size = 0 := by
  rw [toList_sb] at h
  rw [← length_sbytes, h, toList_sb]
  rfl
theorem ecu_len {t : Tgt} (h : targetB t = true) : t.ecu.size ≤ 12 := by
  rcases (target_in h).2.2.2.2.2 with h | h
  · rw [empty_len h]; decide
  · exact name_len h
theorem len_target {t : Tgt} (hok : t.ok) (h : targetB t = true) : (targetE t).length ≤ 98 := by
  obtain ⟨h1, h2, h3, h4, h5, -⟩ := target_in h
  have a := len_row (name_len h1)
  have b := len_row (name_len h4)
  have c := len_row (ecu_len h)
  have d := len_num (x := t.size) (by omega) (by omega)
  have e := len_num (x := t.ctr) (num_in h5).1 (by have := (num_in h5).2; omega)
  have f := t.h
  simp only [targetE, List.length_append]
  omega
theorem len_targets : ∀ {K : List Tgt}, (∀ t ∈ K, t.ok) → (∀ t ∈ K, targetB t = true) → (K.flatMap targetE).length ≤ 98 * K.length
  | [], _, _ => by simp
  | t :: K, h1, h2 => by
    have a := len_target (h1 t (.head _)) (h2 t (.head _))
    have b := len_targets (K := K) (fun x hx => h1 x (.tail _ hx)) (fun x hx => h2 x (.tail _ hx))
    simp only [List.flatMap_cons, List.length_append, List.length_cons]
    omega
theorem len_keys {h : List UInt8} (h32 : h.length = 32) : (keysE h).length ≤ 44 := by
  have a := len_num (x := 1) (by decide) (by decide)
  simp only [keysE, List.length_append]
  omega
theorem len_roles {hh : Nat → List UInt8} (h32 : ∀ j, j < 4 → (hh j).length = 32) : ∀ {i : Nat}, i ≤ 4 → (rolesE hh i).length ≤ 44 * i
  | 0, _ => by simp [rolesE_zero]
  | i + 1, hi => by
    have a := len_roles h32 (i := i) (by omega)
    have b := len_keys (h32 i (by omega))
    rw [rolesE_succ, List.length_append]
    omega
section
variable {n : Nat} {E : List (Nat × Value)} {o : Oper}
theorem EF_app2 {x y : Operand} {s t : Value} {A B : List UInt8} {L L2 : List Chunk} (ho : o.op = .call { callee := .builtin .append, args := #[x, y], argTypes := #[60, 60] }) (hx : ev E x = some s) (hy : ev E y = some t) (h1 : OwnS 5 1 s (bcells A) L) (h2 : OwnS 5 1 t (bcells B) L2) (hl : A.length + B.length ≤ 2 ^ 40) (hs : Sat G (L2 ++ (L ++ M)) I w) :
    EF Tryz.prog n o E w (fun r w' => ∃ L', OwnS 5 1 r (bcells (A ++ B)) L' ∧ Sat G (L' ++ M) I w') := by
  intro a ha next Q h
  refine EF_append (l := A.length) (m := B.length) (news := bcells B) (M := L2 ++ M) ho el60 hx hy h1 (by rw [length_bcells]; exact (Nat.mul_one _).symm) (h2.rd (by rw [length_bcells]; exact (Nat.mul_one _).symm) (by decide) hs) (one1_bcells _) (by omega) (by decide) hs.swp a ha next Q ?_
  rintro r w' ⟨L', ho', hs'⟩
  exact h r w' ⟨L', by rw [bcells_append]; exact ho', hs'.drop2⟩
theorem EF_app1 {x y : Operand} {s t : Value} {A B : List UInt8} {L : List Chunk} (ho : o.op = .call { callee := .builtin .append, args := #[x, y], argTypes := #[60, 60] }) (hx : ev E x = some s) (hy : ev E y = some t) (h1 : OwnS 5 1 s (bcells A) L) (h2 : RdW w 1 t B.length (bcells B)) (hl : A.length + B.length ≤ 2 ^ 40) (hs : Sat G (L ++ M) I w) :
    EF Tryz.prog n o E w (fun r w' => ∃ L', OwnS 5 1 r (bcells (A ++ B)) L' ∧ Sat G (L' ++ M) I w') := by
  intro a ha next Q h
  refine EF_append (l := A.length) (m := B.length) (news := bcells B) ho el60 hx hy h1 (by rw [length_bcells]; exact (Nat.mul_one _).symm) h2 (one1_bcells _) (by omega) (by decide) hs a ha next Q ?_
  rintro r w' ⟨L', ho', hs'⟩
  exact h r w' ⟨L', by rw [bcells_append]; exact ho', hs'⟩
end
theorem C152n {x : Int} (h0 : 0 ≤ x) (h1 : x < 2 ^ 40) (hs : Sat G M I w) : Calls Tryz.prog 152 #[.int .i64 x] w (Ret fun r w' => ∃ L, OwnS 5 1 r (bcells (nums [x])) L ∧ Sat G (L ++ M) I w') := by
  obtain ⟨u, rfl⟩ : ∃ u : Nat, x = (u : Int) := ⟨x.toNat, by omega⟩
  have := C152 (u := u) (by omega) hs
  rw [nums_cons, nums_nil, List.append_nil, clamp_nat (by omega)]
  exact this
theorem C144n {ab : Nat} {ns : List Int} {T : TypeId} {k : Nat} (hns : ∀ x, x ∈ ns → 0 ≤ x ∧ x < 2 ^ 40) (hk : ns.length = k) (hl : k ≤ 2 ^ 10) (hm : (ab, icells ns, T) ∈ M) (hs : Sat G M I w) : Calls Tryz.prog 144 #[.slice (some ⟨ab, 0, none⟩) k k] w (Ret fun r w' => ∃ L, OwnS 5 1 r (bcells (nums ns)) L ∧ Sat G (L ++ M) I w') := by
  subst hk
  exact C144 (fun x hx => ⟨x.toNat, by have := hns x hx; omega, by have := hns x hx; omega⟩) hl (SlM.own hm (by simp [icells]) (Nat.le_refl _)) hs
theorem nums3 {x y z : Int} (hx : 0 ≤ x ∧ x < 2 ^ 40) (hy : 0 ≤ y ∧ y < 2 ^ 40) (hz : 0 ≤ z ∧ z < 2 ^ 40) : ∀ a, a ∈ [x, y, z] → 0 ≤ a ∧ a < 2 ^ 40 := fun a ha => by
  simp only [List.mem_cons, List.not_mem_nil, or_false] at ha
  rcases ha with rfl | rfl | rfl <;> assumption
theorem nums4 {x y z t : Int} (hx : 0 ≤ x ∧ x < 2 ^ 40) (hy : 0 ≤ y ∧ y < 2 ^ 40) (hz : 0 ≤ z ∧ z < 2 ^ 40) (ht : 0 ≤ t ∧ t < 2 ^ 40) : ∀ a, a ∈ [x, y, z, t] → 0 ≤ a ∧ a < 2 ^ 40 := fun a ha => by
  simp only [List.mem_cons, List.not_mem_nil, or_false] at ha
  rcases ha with rfl | rfl | rfl | rfl <;> assumption
theorem nums_app (a b : List Int) : nums (a ++ b) = nums a ++ nums b := by simp [nums]
def hI (h : List UInt8) (i : Nat) : List UInt8 := if i = 0 then [] else h

section
variable {P : Program} {n : Nat} {E : List (Nat × Value)} {o : Oper}
theorem EF_bs4c {TS e bytes : Nat} {z : Value} {x y q p : Operand} {v u t r4 : Value} (ho : o.op = .buildSlice TS 4 #[(0, x), (1, y), (2, q), (3, p)]) (he : El P TS e [z] bytes) (hx : ev E x = some v) (hy : ev E y = some u) (hq : ev E q = some t) (hp : ev E p = some r4) (h1 : v.oneCell' = true) (h2 : u.oneCell' = true) (h3 : t.oneCell' = true) (h4 : r4.oneCell' = true) (hs : Sat G M I w) :
    EF P n o E w (fun r w' => ∃ b, r = .slice (some ⟨b, 0, none⟩) 4 4 ∧ Sat G ((b, [v, u, t, r4], e) :: M) I w') := by
  have hc := cells_one h1
  have hd := cells_one h2
  have het := cells_one h3
  have hf := cells_one h4
  have := EF_buildSlice (n := n) (E := E) (vs := [v, u, t, r4]) ho he rfl (by omega) (by simp) (fun a ha => by simp [ha.ev hx, ha.ev hy, ha.ev hq, ha.ev hp]) (by
    intro s hs
    simp only [List.mem_cons, List.not_mem_nil, or_false] at hs
    rcases hs with rfl | rfl | rfl | rfl
    · rw [← Array.length_toList, hc]; rfl
    · rw [← Array.length_toList, hd]; rfl
    · rw [← Array.length_toList, het]; rfl
    · rw [← Array.length_toList, hf]; rfl) hs
  simpa [hc, hd, het, hf] using this
end

theorem C145 {v : Value} {h : List UInt8} (h32 : h.length = 32) (hv : SlM G M I 32 v 1 (bcells h)) (hs : Sat G M I w) : Calls Tryz.prog 145 #[aggL [v, .int .i64 1]] w (Ret fun r w' => ∃ L, OwnS 5 1 r (bcells (keysE h)) L ∧ Sat G (L ++ M) I w') := by
  obtain ⟨b, off, c, rfl, hc, hmem⟩ := hv.elem (by omega)
  have hn1 := len_num (x := 1) (by decide) (by decide)
  refine enter1 Tryz.func145 rfl Tryz.ntmps145 rfl ?_
  repeat first | apply W.seq | apply W.region
  refine RL.e rfl rfl rfl (EF_boxA rfl rfl hs) ?_
  rintro r1 w1 ⟨b1, rfl, hs1⟩
  refine RL.p rfl rfl rfl (PV_assign rfl rfl) ?_
  refine RL.done (nxt ?_)
  repeat first | apply W.seq | apply W.region
  refine RL.p rfl rfl rfl (by first | exact PV_fieldAddr0 rfl rfl fa39_0 | exact PV_fieldAddr rfl rfl fa39_0) ?_
  refine RL.s rfl rfl rfl (PV_loadM1 rfl ag37 rfl (by first | exact m0 | exact m1 | exact m2 | exact m3 | exact m4 | exact m5 | exact mapp m0 | exact mapp m1 | exact mapp m2 | exact mapp m3) (by first | exact tc_34 | exact tc_35 | exact tc_36 | exact tc_0 | exact tc_1 | rfl)) hs1 ?_
  refine RL.p rfl rfl rfl (PV_len rfl Tryz.underlying37 rfl) ?_
  refine RL.e rfl rfl rfl (K1 rfl fn152 rfl (C152n (by omega) (by omega) hs1)) ?_
  rintro r2 w2 ⟨L2, ho2, hs2⟩
  refine RL.p rfl rfl rfl (PV_assign rfl rfl) ?_
  refine RL.done (nxt ?_)
  repeat first | apply W.seq | apply W.region
  refine RL.p rfl rfl rfl (PV_assign rfl rfl) ?_
  refine RL.done (nxt ?_)
  repeat first | apply W.seq | apply W.region
  refine W.block ?_
  repeat first | apply W.seq | apply W.region
  refine W.loop (F := fun z : Nat × Value => [(4, .int .i64 (z.1 : Int)), (3, z.2), (1, ptr b1 0)]) (J := fun z w => z.1 ≤ 1 ∧ ∃ L, OwnS 5 1 z.2 (bcells (nums [1] ++ hI h z.1)) L ∧ Sat G (L ++ (b1, [.slice (some ⟨b, off, none⟩) 1 c, .int .i64 1], 39) :: M) I w) (m := fun z => 1 - z.1) (0, r2) (by repeat first | exact Sub.nil | refine Sub.cons rfl ?_) ⟨by omega, L2, by rw [hI, if_pos rfl, List.append_nil]; exact ho2, hs2⟩ ?_
  rintro ⟨i, x⟩ w3 ⟨hi, L, ho, hs3⟩
  dsimp only at hi ho hs3
  repeat first | apply W.seq | apply W.region
  refine RL.p rfl rfl rfl (PV_move rfl rfl) ?_
  refine RL.p rfl rfl rfl (by first | exact PV_fieldAddr0 rfl rfl fa39_0 | exact PV_fieldAddr rfl rfl fa39_0) ?_
  refine RL.s rfl rfl rfl (PV_loadM1 rfl ag37 rfl (by first | exact m0 | exact m1 | exact m2 | exact m3 | exact m4 | exact m5 | exact mapp m0 | exact mapp m1 | exact mapp m2 | exact mapp m3) (by first | exact tc_34 | exact tc_35 | exact tc_36 | exact tc_0 | exact tc_1 | rfl)) hs3 ?_
  refine RL.p rfl rfl rfl (PV_len rfl Tryz.underlying37 rfl) ?_
  refine RL.p rfl rfl rfl (PV_lss rfl rfl rfl) ?_
  refine RL.done (nxt ?_)
  repeat first | apply W.seq | apply W.region
  refine W.cond rfl (fun h1 => ?_) (fun h1 => ?_)
  ·
    obtain rfl : i = 0 := by have := of_decide_eq_true h1; dsimp only at this; omega
    rw [hI, if_pos rfl, List.append_nil] at ho
    refine W.skip (nxt ?_)
    repeat first | apply W.seq | apply W.region
    refine W.block ?_
    repeat first | apply W.seq | apply W.region
    refine RL.p rfl rfl rfl (PV_move rfl rfl) ?_
    refine RL.p rfl rfl rfl (by first | exact PV_fieldAddr0 rfl rfl fa39_0 | exact PV_fieldAddr rfl rfl fa39_0) ?_
    refine RL.s rfl rfl rfl (PV_loadM1 rfl ag37 rfl (by first | exact m0 | exact m1 | exact m2 | exact m3 | exact m4 | exact m5 | exact mapp m0 | exact mapp m1 | exact mapp m2 | exact mapp m3) (by first | exact tc_34 | exact tc_35 | exact tc_36 | exact tc_0 | exact tc_1 | rfl)) hs3 ?_
    refine RL.p rfl rfl rfl (PV_move rfl rfl) ?_
    refine RL.p rfl rfl rfl (PV_indexAddr rfl Tryz.underlying37 sz24 rfl rfl rfl (by omega)) ?_
    refine RL.p rfl rfl rfl (PV_sliceArr rfl Tryz.underlying24 rfl sz5) ?_
    refine RL.e rfl rfl rfl (EF_app1 (B := h) rfl rfl rfl ho (by rw [h32]; exact rdMem (p := 0 * 32) (hmem.mono fun _ h => h.drop.tail) (part_whole (by rw [length_bcells, h32])) (by rw [length_bcells, h32]; decide) (Nat.le_refl _) hs3) (by omega) hs3) ?_
    rintro r4 w4 ⟨L4, ho4, hs4⟩
    refine RL.p rfl rfl rfl (PV_assign rfl rfl) ?_
    refine RL.done (nxt ?_)
    repeat first | apply W.seq | apply W.region
    refine RL.p rfl rfl rfl (PV_move rfl rfl) ?_
    refine RL.p rfl rfl rfl (PV_add rfl rfl rfl (by omega)) ?_
    refine RL.p rfl rfl rfl (PV_assign rfl rfl) ?_
    refine RL.done (round_end (1, r4) ?_ ?_ ?_)
    · repeat first | exact Sub.nil | refine Sub.cons rfl ?_
    · exact ⟨by dsimp only; omega, L4, ho4, hs4⟩
    · first | omega | (dsimp only; omega)
  repeat first | apply W.seq | apply W.region
  obtain rfl : i = 1 := by have := of_decide_eq_false h1; dsimp only at this; omega
  replace ho : OwnS 5 1 x (bcells (nums [1] ++ h)) L := ho
  refine  W.exit (nxt ?_)
  repeat first | apply W.seq | apply W.region
  refine RL.p rfl rfl rfl (PV_move rfl rfl) ?_
  refine RL.p rfl rfl rfl (by first | exact PV_fieldAddr0 rfl rfl fa39_1 | exact PV_fieldAddr rfl rfl fa39_1) ?_
  refine RL.s rfl rfl rfl (PV_loadM1 rfl ag3 rfl (by first | exact m0 | exact m1 | exact m2 | exact m3 | exact m4 | exact m5 | exact mapp m0 | exact mapp m1 | exact mapp m2 | exact mapp m3) (by first | exact tc_34 | exact tc_35 | exact tc_36 | exact tc_0 | exact tc_1 | rfl)) hs3 ?_
  refine RL.e rfl rfl rfl (K1 rfl fn152 rfl (C152n (by omega) (by omega) hs3)) ?_
  rintro r4 w4 ⟨L4, ho4, hs4⟩
  refine RL.e rfl rfl rfl (EF_app2 rfl rfl rfl ho ho4 (by first | omega | (simp only [List.length_append]; omega)) hs4) ?_
  rintro r5 w5 ⟨L5, ho5, hs5⟩
  refine RL.p rfl rfl rfl (PV_assign rfl rfl) ?_
  refine RL.done (nxt ?_)
  repeat first | apply W.seq | apply W.region
  exact W.ret (ret_tmp rfl rfl ⟨_, rfl, L5, ho5, hs5.del (Del.app x0)⟩)

theorem C121 {v e : Int} {ks : Nat → Value} {hh : Nat → List UInt8} (hv : isVersionB v = true) (he : isNumB e = true) (h32 : ∀ j, j < 4 → (hh j).length = 32) (hk : ∀ j, j < 4 → SlM G M I 32 (ks j) 1 (bcells (hh j))) (hs : Sat G M I w) : Calls Tryz.prog 121 #[aggL (rcells v e ks)] w (Ret fun r w' => ∃ u L, r = .tuple #[u, .int .i64 0] ∧ OwnS 5 1 u (bcells (nums [1] ++ rootE v e hh)) L ∧ Sat G (L ++ M) I w') := by
  have hvv := version_in hv
  have hee := num_in he
  have hns : ∀ a, a ∈ [1, v, e] → 0 ≤ a ∧ a < 2 ^ 40 := nums3 (by omega) (by omega) (by omega)
  have hnl := len_nums hns
  refine enter1 Tryz.func121 rfl Tryz.ntmps121 rfl ?_
  repeat first | apply W.seq | apply W.region
  refine RL.e rfl rfl rfl (EF_boxA rfl rfl hs) ?_
  rintro r1 w1 ⟨b1, rfl, hs1⟩
  refine RL.p rfl rfl rfl (PV_assign rfl rfl) ?_
  refine RL.p rfl rfl rfl (PV_assign rfl rfl) ?_
  refine RL.done (nxt ?_)
  repeat first | apply W.seq | apply W.region
  refine RL.s rfl rfl rfl (PV_loadMA (r := rcells v e ks) rfl ag42 sz42 rfl m0 (by show 10 ≤ 10; omega) rfl) hs1 ?_
  refine RL.e rfl rfl rfl (K1 rfl fn143 rfl (C143 hv he h32 (fun j hj => (hk j hj).mono fun _ h => h.tail) hs1)) ?_
  rintro r2 w2 ⟨rfl, hs2⟩
  refine RL.p rfl rfl rfl (PV_not rfl rfl) ?_
  refine RL.done (nxt ?_)
  repeat first | apply W.seq | apply W.region
  refine W.cond rfl (fun h1 => ?_) (fun h1 => ?_)
  · cases h1
  refine W.skip (nxt ?_)
  repeat first | apply W.seq | apply W.region
  refine RL.p rfl rfl rfl (by first | exact PV_fieldAddr0 rfl rfl fa42_0 | exact PV_fieldAddr rfl rfl fa42_0) ?_
  refine RL.s rfl rfl rfl (PV_loadM1 rfl ag3 rfl (by first | exact m0 | exact m1 | exact m2 | exact m3 | exact m4 | exact m5 | exact mapp m0 | exact mapp m1 | exact mapp m2 | exact mapp m3) (by first | exact tc_34 | exact tc_35 | exact tc_36 | exact tc_0 | exact tc_1 | rfl)) hs2 ?_
  refine RL.p rfl rfl rfl (by first | exact PV_fieldAddr0 rfl rfl fa42_1 | exact PV_fieldAddr rfl rfl fa42_1) ?_
  refine RL.s rfl rfl rfl (PV_loadM1 rfl ag3 rfl (by first | exact m0 | exact m1 | exact m2 | exact m3 | exact m4 | exact m5 | exact mapp m0 | exact mapp m1 | exact mapp m2 | exact mapp m3) (by first | exact tc_34 | exact tc_35 | exact tc_36 | exact tc_0 | exact tc_1 | rfl)) hs2 ?_
  refine RL.e rfl rfl rfl (EF_bs3c rfl el178 rfl rfl rfl rfl rfl rfl hs2) ?_
  rintro r3 w3 ⟨b13, rfl, hs3⟩
  refine RL.e rfl rfl rfl (K1 rfl fn144 rfl (C144n (ns := [1, v, e]) hns rfl (by decide) m0 hs3)) ?_
  rintro r4 w4 ⟨L4, ho4, hs4⟩
  refine RL.p rfl rfl rfl (PV_assign rfl rfl) ?_
  refine RL.done (nxt ?_)
  repeat first | apply W.seq | apply W.region
  refine RL.p rfl rfl rfl (PV_assign rfl rfl) ?_
  refine RL.done (nxt ?_)
  repeat first | apply W.seq | apply W.region
  refine W.block ?_
  repeat first | apply W.seq | apply W.region
  refine W.loop (F := fun z : Nat × Value => [(5, .int .i64 (z.1 : Int)), (4, z.2), (1, ptr b1 0)]) (J := fun z w => z.1 ≤ 4 ∧ ∃ L, OwnS 5 1 z.2 (bcells (nums [1, v, e] ++ rolesE hh z.1)) L ∧ Sat G (L ++ (b1, rcells v e ks, 42) :: M) I w) (m := fun z => 4 - z.1) (0, r4) (by repeat first | exact Sub.nil | refine Sub.cons rfl ?_) ⟨by omega, L4, by rw [rolesE_zero, List.append_nil]; exact ho4, hs4.del (Del.app x0)⟩ ?_
  rintro ⟨i, x⟩ w5 ⟨hi, L, ho, hs5⟩
  dsimp only at hi ho hs5
  repeat first | apply W.seq | apply W.region
  refine RL.p rfl rfl rfl (PV_move rfl rfl) ?_
  refine RL.p rfl rfl rfl (PV_lss rfl rfl rfl) ?_
  refine RL.done (nxt ?_)
  repeat first | apply W.seq | apply W.region
  refine W.cond rfl (fun h2 => ?_) (fun h2 => ?_)
  ·
    have hi1 : i < 4 := by have := of_decide_eq_true h2; dsimp only at this; omega
    have hrl := len_roles h32 (i := i) (by omega)
    have hkl := len_keys (h32 i hi1)
    dsimp only [List.length_cons, List.length_nil] at hnl
    refine W.skip (nxt ?_)
    repeat first | apply W.seq | apply W.region
    refine W.block ?_
    repeat first | apply W.seq | apply W.region
    refine RL.p rfl rfl rfl (PV_move rfl rfl) ?_
    refine RL.p rfl rfl rfl (PV_move rfl rfl) ?_
    refine RL.p rfl rfl rfl (by first | exact PV_fieldAddr0 rfl rfl fa42_2 | exact PV_fieldAddr rfl rfl fa42_2) ?_
    refine RL.p rfl rfl rfl (PV_indexArr rfl Tryz.underlying40 sz39 rfl rfl rfl (by omega)) ?_
    refine RL.s rfl rfl rfl (PV_loadMA rfl ag39 sz39 rfl (mapp m0) (by show _ ≤ 10; omega) (role_part hi1)) hs5 ?_
    refine RL.e rfl rfl rfl (K1 rfl fn145 rfl (C145 (h32 i hi1) ((hk i hi1).mono fun _ h => h.drop.tail) hs5)) ?_
    rintro r6 w6 ⟨L6, ho6, hs6⟩
    refine RL.e rfl rfl rfl (EF_app2 rfl rfl rfl ho ho6 (by first | omega | (simp only [List.length_append]; omega)) hs6) ?_
    rintro r7 w7 ⟨L7, ho7, hs7⟩
    refine RL.p rfl rfl rfl (PV_assign rfl rfl) ?_
    refine RL.done (nxt ?_)
    repeat first | apply W.seq | apply W.region
    refine RL.p rfl rfl rfl (PV_move rfl rfl) ?_
    refine RL.p rfl rfl rfl (PV_add rfl rfl rfl (by omega)) ?_
    refine RL.p rfl rfl rfl (PV_assign rfl rfl) ?_
    refine RL.done (round_end (i + 1, r7) ?_ ?_ ?_)
    · repeat first | exact Sub.nil | refine Sub.cons rfl ?_
    · exact ⟨by dsimp only; omega, L7, by rw [rolesE_succ, ← List.append_assoc]; exact ho7, hs7⟩
    · first | omega | (dsimp only; omega)
  repeat first | apply W.seq | apply W.region
  obtain rfl : i = 4 := by have := of_decide_eq_false h2; dsimp only at this; omega
  refine  W.exit (nxt ?_)
  repeat first | apply W.seq | apply W.region
  refine RL.p rfl rfl rfl (PV_move rfl rfl) ?_
  refine RL.p rfl rfl rfl (PV_assign rfl rfl) ?_
  refine RL.p rfl rfl rfl (PV_assign rfl rfl) ?_
  refine RL.done (nxt ?_)
  repeat first | apply W.seq | apply W.region
  exact W.ret (ret_tmp2 rfl rfl rfl ⟨_, rfl, _, L, rfl, by rw [rootE, ← List.append_assoc, ← nums_app]; exact ho, hs5.del (Del.app x0)⟩)

theorem C124 {v e sn : Int} {h : List UInt8} (h32 : h.length = 32) (hv : isVersionB v = true) (he : isNumB e = true) (hn : isVersionB sn = true) (hs : Sat G M I w) : Calls Tryz.prog 124 #[aggL (.int .i64 v :: .int .i64 e :: .int .i64 sn :: bcells h)] w (Ret fun r w' => ∃ u L, r = .tuple #[u, .int .i64 0] ∧ OwnS 5 1 u (bcells (nums [2] ++ timeE v e sn h)) L ∧ Sat G (L ++ M) I w') := by
  have hvv := version_in hv
  have hee := num_in he
  have hnn := version_in hn
  have hns : ∀ a, a ∈ [2, v, e, sn] → 0 ≤ a ∧ a < 2 ^ 40 := nums4 (by omega) (by omega) (by omega) (by omega)
  have hnl := len_nums hns
  dsimp only [List.length_cons, List.length_nil] at hnl
  refine enter1 Tryz.func124 rfl Tryz.ntmps124 rfl ?_
  repeat first | apply W.seq | apply W.region
  refine RL.e rfl rfl rfl (EF_boxA rfl rfl hs) ?_
  rintro r1 w1 ⟨b1, rfl, hs1⟩
  refine RL.p rfl rfl rfl (PV_assign rfl rfl) ?_
  refine RL.p rfl rfl rfl (PV_assign rfl rfl) ?_
  refine RL.done (nxt ?_)
  repeat first | apply W.seq | apply W.region
  refine RL.s rfl rfl rfl (PV_loadMA (r := .int .i64 v :: .int .i64 e :: .int .i64 sn :: bcells h) rfl ag45 sz45 rfl m0 (by simp [length_bcells, h32]) (part_whole (by simp [length_bcells, h32]))) hs1 ?_
  refine RL.e rfl rfl rfl (K1 rfl fn147 rfl (C147 hv he hn hs1)) ?_
  rintro r2 w2 ⟨rfl, hs2⟩
  refine RL.p rfl rfl rfl (PV_not rfl rfl) ?_
  refine RL.done (nxt ?_)
  repeat first | apply W.seq | apply W.region
  refine W.cond rfl (fun h1 => ?_) (fun h1 => ?_)
  · cases h1
  refine W.skip (nxt ?_)
  repeat first | apply W.seq | apply W.region
  refine W.drawsH hs2 [(0, true), (1, true), (2, true), (3, true), (4, true), (5, true), (8, true), (9, true), (6, false), (7, false), (10, false), (11, false), (12, false)] mixed (by kernel_rfl) (by kernel_rfl) ?_
  have hs3 := hs2.drew
  refine TW.p rfl rfl rfl rfl (by first | exact PV_fieldAddr0 rfl rfl fa45_0 | exact PV_fieldAddr rfl rfl fa45_0) (hs3) ?_
  refine TW.s rfl rfl rfl rfl (PV_loadM1 rfl ag3 rfl (by first | exact m0 | exact m1 | exact m2 | exact m3 | exact m4 | exact m5 | exact mapp m0 | exact mapp m1 | exact mapp m2 | exact mapp m3) (by first | exact tc_34 | exact tc_35 | exact tc_36 | exact tc_0 | exact tc_1 | rfl)) (hs3) ?_
  refine TW.p rfl rfl rfl rfl (by first | exact PV_fieldAddr0 rfl rfl fa45_1 | exact PV_fieldAddr rfl rfl fa45_1) (hs3) ?_
  refine TW.s rfl rfl rfl rfl (PV_loadM1 rfl ag3 rfl (by first | exact m0 | exact m1 | exact m2 | exact m3 | exact m4 | exact m5 | exact mapp m0 | exact mapp m1 | exact mapp m2 | exact mapp m3) (by first | exact tc_34 | exact tc_35 | exact tc_36 | exact tc_0 | exact tc_1 | rfl)) (hs3) ?_
  refine TW.p rfl rfl rfl rfl (by first | exact PV_fieldAddr0 rfl rfl fa45_2 | exact PV_fieldAddr rfl rfl fa45_2) (hs3) ?_
  refine TW.s rfl rfl rfl rfl (PV_loadM1 rfl ag3 rfl (by first | exact m0 | exact m1 | exact m2 | exact m3 | exact m4 | exact m5 | exact mapp m0 | exact mapp m1 | exact mapp m2 | exact mapp m3) (by first | exact tc_34 | exact tc_35 | exact tc_36 | exact tc_0 | exact tc_1 | rfl)) (hs3) ?_
  refine TW.p rfl rfl rfl rfl (by first | exact PV_fieldAddr0 rfl rfl fa45_3 | exact PV_fieldAddr rfl rfl fa45_3) (hs3) ?_
  refine TW.p rfl rfl rfl rfl (PV_sliceArr rfl Tryz.underlying24 rfl sz5) (hs3) ?_
  refine TW.e rfl rfl rfl rfl (EF_bs4c rfl el178 rfl rfl rfl rfl rfl rfl rfl rfl hs3) ?_
  rintro r4 w4 ⟨b13, rfl, hs4⟩
  refine ⟨(hs4.tail), ?_⟩
  refine TW.e rfl rfl rfl rfl (K1 rfl fn144 rfl (C144n (ns := [2, v, e, sn]) hns rfl (by decide) m0 hs4)) ?_
  rintro r5 w5 ⟨L5, ho5, hs5⟩
  refine ⟨(hs5.drop.tail), ?_⟩
  refine TW.e rfl rfl rfl rfl (EF_app1 (B := h) rfl rfl rfl ho5 (by rw [h32]; exact rdMem (off := 0) (p := 3) (k := 32) (Mem.of_own (cs := .int .i64 v :: .int .i64 e :: .int .i64 sn :: bcells h) (mapp m1) (by simp) (part_whole rfl)) (by show (bcells h).take 32 = _; exact List.take_of_length_le (by rw [length_bcells, h32]; exact Nat.le_refl _)) (by simp [length_bcells, h32]) (Nat.le_refl _) hs5) (by omega) hs5) ?_
  rintro r6 w6 ⟨L6, ho6, hs6⟩
  refine ⟨(hs6.drop.tail), ?_⟩
  refine TW.qn rfl rfl rfl rfl (T := fun _ => True) (PV_assign rfl rfl) trivial (by kernel_rfl) ?_
  refine TW.qn rfl rfl rfl rfl (T := fun _ => True) (PV_assign rfl rfl) trivial (by kernel_rfl) ?_
  refine TW.done (nxt ?_)
  repeat first | apply W.seq | apply W.region
  exact W.ret (ret_tmp2 rfl rfl rfl ⟨_, rfl, _, L6, rfl, by rw [timeE, ← List.append_assoc, ← nums_app]; exact ho6, (hs6.del (Del.app x0)).del (Del.app x0)⟩)

theorem C128 {s : ByteArray} {v e x : Int} {pv : Value} (hn : nameB s = true) (hx : isVersionB x = true) (hv : isVersionB v = true) (he : isNumB e = true) (hp : SlM G M I 2 pv 1 [.string s, .int .i64 x]) (hs : Sat G M I w) : Calls Tryz.prog 128 #[aggL [.int .i64 v, .int .i64 e, pv]] w (Ret fun r w' => ∃ J u L, Le I J ∧ r = .tuple #[u, .int .i64 0] ∧ OwnS 5 1 u (bcells (nums [3] ++ snapE v e s x)) L ∧ Sat G (L ++ M) J w') := by
  obtain ⟨b, off, c, rfl, hc, hmem⟩ := hp.elem (by omega)
  have hvv := version_in hv
  have hxx := version_in hx
  have hee := num_in he
  have hsl := name_len hn
  have hrl := len_row hsl
  have hxl := len_num (x := x) (by omega) (by omega)
  have hns : ∀ a, a ∈ [3, v, e, 1] → 0 ≤ a ∧ a < 2 ^ 40 := nums4 (by omega) (by omega) (by omega) (by omega)
  have hnl := len_nums hns
  dsimp only [List.length_cons, List.length_nil] at hnl
  refine enter1 Tryz.func128 rfl Tryz.ntmps128 rfl ?_
  repeat first | apply W.seq | apply W.region
  refine RL.e rfl rfl rfl (EF_boxA rfl rfl hs) ?_
  rintro r1 w1 ⟨b1, rfl, hs1⟩
  refine RL.p rfl rfl rfl (PV_assign rfl rfl) ?_
  refine RL.p rfl rfl rfl (PV_assign rfl rfl) ?_
  refine RL.done (nxt ?_)
  repeat first | apply W.seq | apply W.region
  refine RL.s rfl rfl rfl (PV_loadMA (r := [.int .i64 v, .int .i64 e, .slice (some ⟨b, off, none⟩) 1 c]) rfl ag48 sz48 rfl m0 (by simp) rfl) hs1 ?_
  refine RL.e rfl rfl rfl (K1 rfl fn150 rfl (C150 hn hx hv he (hp.mono fun _ h => h.tail) hs1)) ?_
  rintro r2 w2 ⟨rfl, hs2⟩
  refine RL.p rfl rfl rfl (PV_not rfl rfl) ?_
  refine RL.done (nxt ?_)
  repeat first | apply W.seq | apply W.region
  refine W.cond rfl (fun h1 => ?_) (fun h1 => ?_)
  · cases h1
  refine W.skip (nxt ?_)
  repeat first | apply W.seq | apply W.region
  refine RL.p rfl rfl rfl (by first | exact PV_fieldAddr0 rfl rfl fa48_0 | exact PV_fieldAddr rfl rfl fa48_0) ?_
  refine RL.s rfl rfl rfl (PV_loadM1 rfl ag3 rfl (by first | exact m0 | exact m1 | exact m2 | exact m3 | exact m4 | exact m5 | exact mapp m0 | exact mapp m1 | exact mapp m2 | exact mapp m3) (by first | exact tc_34 | exact tc_35 | exact tc_36 | exact tc_0 | exact tc_1 | rfl)) hs2 ?_
  refine RL.p rfl rfl rfl (by first | exact PV_fieldAddr0 rfl rfl fa48_1 | exact PV_fieldAddr rfl rfl fa48_1) ?_
  refine RL.s rfl rfl rfl (PV_loadM1 rfl ag3 rfl (by first | exact m0 | exact m1 | exact m2 | exact m3 | exact m4 | exact m5 | exact mapp m0 | exact mapp m1 | exact mapp m2 | exact mapp m3) (by first | exact tc_34 | exact tc_35 | exact tc_36 | exact tc_0 | exact tc_1 | rfl)) hs2 ?_
  refine RL.p rfl rfl rfl (by first | exact PV_fieldAddr0 rfl rfl fa48_2 | exact PV_fieldAddr rfl rfl fa48_2) ?_
  refine RL.s rfl rfl rfl (PV_loadM1 rfl ag46 rfl (by first | exact m0 | exact m1 | exact m2 | exact m3 | exact m4 | exact m5 | exact mapp m0 | exact mapp m1 | exact mapp m2 | exact mapp m3) (by first | exact tc_34 | exact tc_35 | exact tc_36 | exact tc_0 | exact tc_1 | rfl)) hs2 ?_
  refine RL.p rfl rfl rfl (PV_len rfl Tryz.underlying46 rfl) ?_
  refine RL.e rfl rfl rfl (EF_bs4c rfl el178 rfl rfl rfl rfl rfl rfl rfl rfl hs2) ?_
  rintro r3 w3 ⟨b16, rfl, hs3⟩
  refine RL.e rfl rfl rfl (K1 rfl fn144 rfl (C144n (ns := [3, v, e, 1]) hns rfl (by decide) m0 hs3)) ?_
  rintro r4 w4 ⟨L4, ho4, hs4⟩
  refine RL.p rfl rfl rfl (PV_assign rfl rfl) ?_
  refine RL.done (nxt ?_)
  repeat first | apply W.seq | apply W.region
  refine RL.p rfl rfl rfl (PV_assign rfl rfl) ?_
  refine RL.done (nxt ?_)
  repeat first | apply W.seq | apply W.region
  refine W.block ?_
  repeat first | apply W.seq | apply W.region
  refine W.loop (F := fun z : Nat × Value => [(5, .int .i64 (z.1 : Int)), (4, z.2), (1, ptr b1 0)]) (J := fun z w => z.1 ≤ 1 ∧ ∃ J L, Le I J ∧ OwnS 5 1 z.2 (bcells (nums [3, v, e, 1] ++ hI (pinE s x) z.1)) L ∧ Sat G (L ++ (b1, [.int .i64 v, .int .i64 e, .slice (some ⟨b, off, none⟩) 1 c], 48) :: M) J w) (m := fun z => 1 - z.1) (0, r4) (by repeat first | exact Sub.nil | refine Sub.cons rfl ?_) ⟨by omega, I, L4, Le.refl I, by rw [hI, if_pos rfl, List.append_nil]; exact ho4, hs4.del (Del.app x0)⟩ ?_
  rintro ⟨i, y⟩ w5 ⟨hi, J5, L, hj5, ho, hs5⟩
  dsimp only at hi ho hs5
  repeat first | apply W.seq | apply W.region
  refine RL.p rfl rfl rfl (PV_move rfl rfl) ?_
  refine RL.p rfl rfl rfl (by first | exact PV_fieldAddr0 rfl rfl fa48_2 | exact PV_fieldAddr rfl rfl fa48_2) ?_
  refine RL.s rfl rfl rfl (PV_loadM1 rfl ag46 rfl (by first | exact m0 | exact m1 | exact m2 | exact m3 | exact m4 | exact m5 | exact mapp m0 | exact mapp m1 | exact mapp m2 | exact mapp m3) (by first | exact tc_34 | exact tc_35 | exact tc_36 | exact tc_0 | exact tc_1 | rfl)) hs5 ?_
  refine RL.p rfl rfl rfl (PV_len rfl Tryz.underlying46 rfl) ?_
  refine RL.p rfl rfl rfl (PV_lss rfl rfl rfl) ?_
  refine RL.done (nxt ?_)
  repeat first | apply W.seq | apply W.region
  refine W.cond rfl (fun h2 => ?_) (fun h2 => ?_)
  ·
    obtain rfl : i = 0 := by have := of_decide_eq_true h2; dsimp only at this; omega
    rw [hI, if_pos rfl, List.append_nil] at ho
    refine W.skip (nxt ?_)
    repeat first | apply W.seq | apply W.region
    refine W.block ?_
    repeat first | apply W.seq | apply W.region
    refine W.drawsH hs5.drop [(0, true), (1, true), (2, true), (3, true), (4, true), (5, true), (6, true), (9, true), (10, true), (11, true), (12, true), (13, true), (14, true), (7, false), (8, false), (15, false), (16, false), (17, false)] mixed (by kernel_rfl) (by kernel_rfl) ?_
    have hs6 := hs5.drew
    refine TW.p rfl rfl rfl rfl (PV_move rfl rfl) (hs6.drop) ?_
    refine TW.p rfl rfl rfl rfl (by first | exact PV_fieldAddr0 rfl rfl fa48_2 | exact PV_fieldAddr rfl rfl fa48_2) (hs6.drop) ?_
    refine TW.s rfl rfl rfl rfl (PV_loadM1 rfl ag46 rfl (by first | exact m0 | exact m1 | exact m2 | exact m3 | exact m4 | exact m5 | exact mapp m0 | exact mapp m1 | exact mapp m2 | exact mapp m3) (by first | exact tc_34 | exact tc_35 | exact tc_36 | exact tc_0 | exact tc_1 | rfl)) (hs6.drop) ?_
    refine TW.p rfl rfl rfl rfl (PV_move rfl rfl) (hs6.drop) ?_
    refine TW.p rfl rfl rfl rfl (PV_indexAddr rfl Tryz.underlying46 sz98 rfl rfl rfl (by omega)) (hs6.drop) ?_
    refine TW.p rfl rfl rfl rfl (by first | exact PV_fieldAddr0 rfl rfl fa98_0 | exact PV_fieldAddr rfl rfl fa98_0) (hs6.drop) ?_
    refine TW.s rfl rfl rfl rfl (PV_loadMem1 (j := 0) rfl ag9 rfl (fun _ h => h.tail.le hj5) hmem rfl) (hs6.drop) ?_
    refine TW.p rfl rfl rfl rfl (by first | exact PV_fieldAddr0 rfl rfl fa48_2 | exact PV_fieldAddr rfl rfl fa48_2) (hs6.drop) ?_
    refine TW.s rfl rfl rfl rfl (PV_loadM1 rfl ag46 rfl (by first | exact m0 | exact m1 | exact m2 | exact m3 | exact m4 | exact m5 | exact mapp m0 | exact mapp m1 | exact mapp m2 | exact mapp m3) (by first | exact tc_34 | exact tc_35 | exact tc_36 | exact tc_0 | exact tc_1 | rfl)) (hs6.drop) ?_
    refine TW.p rfl rfl rfl rfl (PV_move rfl rfl) (hs6.drop) ?_
    refine TW.p rfl rfl rfl rfl (PV_indexAddr rfl Tryz.underlying46 sz98 rfl rfl rfl (by omega)) (hs6.drop) ?_
    refine TW.p rfl rfl rfl rfl (by first | exact PV_fieldAddr0 rfl rfl fa98_1 | exact PV_fieldAddr rfl rfl fa98_1)  (hs6.drop) ?_
    refine TW.s rfl rfl rfl rfl (PV_loadMem1 (j := 1) rfl ag3 rfl (fun _ h => h.tail.le hj5) hmem rfl) (hs6.drop) ?_
    refine TW.e rfl rfl rfl rfl (K1 rfl fn151 rfl (C151 (by omega) hs6)) ?_
    rintro r7 w7 ⟨J7, L7, hj7, ho7, hs7⟩
    refine ⟨(hs7.drop.drop.le hj7), ?_⟩
    refine TW.e rfl rfl rfl rfl (EF_app2 rfl rfl rfl ho ho7 (by first | omega | (simp only [List.length_append]; omega)) hs7) ?_
    rintro r8 w8 ⟨L8, ho8, hs8⟩
    refine ⟨(hs8.drop.le hj7), ?_⟩
    refine TW.e rfl rfl rfl rfl (K1 rfl fn152 rfl (C152n (by omega) (by omega) hs8)) ?_
    rintro r9 w9 ⟨L9, ho9, hs9⟩
    refine ⟨(hs9.drop.drop.le hj7), ?_⟩
    refine TW.e rfl rfl rfl rfl (EF_app2 rfl rfl rfl ho8 ho9 (by first | omega | (simp only [List.length_append]; omega)) hs9) ?_
    rintro r10 w10 ⟨L10, ho10, hs10⟩
    refine ⟨(hs10.drop.le hj7), ?_⟩
    refine TW.qn rfl rfl rfl rfl (T := fun _ => True) (PV_assign rfl rfl) trivial (by kernel_rfl) ?_
    refine TW.done (nxt ?_)
    repeat first | apply W.seq | apply W.region
    refine RL.p rfl rfl rfl (PV_move rfl rfl) ?_
    refine RL.p rfl rfl rfl (PV_add rfl rfl rfl (by omega)) ?_
    refine RL.p rfl rfl rfl (PV_assign rfl rfl) ?_
    refine RL.done (round_end (1, r10) ?_ ?_ ?_)
    · repeat first | exact Sub.nil | refine Sub.cons rfl ?_
    · exact ⟨by dsimp only; omega, J7, L10, hj5.trans hj7, by rw [List.append_assoc] at ho10; exact ho10, hs10⟩
    · first | omega | (dsimp only; omega)
  repeat first | apply W.seq | apply W.region
  obtain rfl : i = 1 := by have := of_decide_eq_false h2; dsimp only at this; omega
  replace ho : OwnS 5 1 y (bcells (nums [3, v, e, 1] ++ pinE s x)) L := ho
  refine  W.exit (nxt ?_)
  repeat first | apply W.seq | apply W.region
  refine RL.p rfl rfl rfl (PV_move rfl rfl) ?_
  refine RL.p rfl rfl rfl (PV_assign rfl rfl) ?_
  refine RL.p rfl rfl rfl (PV_assign rfl rfl) ?_
  refine RL.done (nxt ?_)
  repeat first | apply W.seq | apply W.region
  exact W.ret (ret_tmp2 rfl rfl rfl ⟨_, rfl, J5, _, L, hj5, rfl, by rw [snapE, ← List.append_assoc, ← List.append_assoc, ← nums_app, ← nums_app]; exact ho, hs5.del (Del.app x0)⟩)

theorem C155 {t : Tgt} (h : targetB t = true) (hs : Sat G M I w) : Calls Tryz.prog 155 #[aggL (tcells t)] w (Ret fun r w' => ∃ J L, Le I J ∧ OwnS 5 1 r (bcells (targetE t)) L ∧ Sat G (L ++ M) J w') := by
  obtain ⟨hn, hz0, hz1, hw, hc, he⟩ := target_in h
  have hcc := num_in hc
  have hnl := name_len hn
  have hwl := name_len hw
  have hel := ecu_len h
  have e1 := len_row hnl
  have e2 := len_row hwl
  have e3 := len_row hel
  have e4 := len_num (x := t.size) hz0 (by omega)
  have e5 := len_num (x := t.ctr) (by omega) (by omega)
  have e6 := t.h
  refine enter1 Tryz.func155 rfl Tryz.ntmps155 rfl ?_
  repeat first | apply W.seq | apply W.region
  refine RL.e rfl rfl rfl (EF_boxA rfl rfl hs) ?_
  rintro r1 w1 ⟨b1, rfl, hs1⟩
  refine RL.p rfl rfl rfl (PV_assign rfl rfl) ?_
  refine RL.done (nxt ?_)
  repeat first | apply W.seq | apply W.region
  refine W.drawsH hs1 [(0, true), (1, true), (3, true), (4, true), (2, false), (5, false), (6, false), (7, false)] mixed (by kernel_rfl) (by kernel_rfl) ?_
  have hs2 := hs1.drew
  refine TW.p rfl rfl rfl rfl (by first | exact PV_fieldAddr0 rfl rfl fa26_0 | exact PV_fieldAddr rfl rfl fa26_0) (hs2) ?_
  refine TW.s rfl rfl rfl rfl (PV_loadM1 rfl ag9 rfl (by first | exact m0 | exact m1 | exact m2 | exact m3 | exact m4 | exact m5 | exact mapp m0 | exact mapp m1 | exact mapp m2 | exact mapp m3) (by first | exact tc_34 | exact tc_35 | exact tc_36 | exact tc_0 | exact tc_1 | rfl)) (hs2) ?_
  refine TW.p rfl rfl rfl rfl (by first | exact PV_fieldAddr0 rfl rfl fa26_1 | exact PV_fieldAddr rfl rfl fa26_1) (hs2) ?_
  refine TW.s rfl rfl rfl rfl (PV_loadM1 rfl ag3 rfl (by first | exact m0 | exact m1 | exact m2 | exact m3 | exact m4 | exact m5 | exact mapp m0 | exact mapp m1 | exact mapp m2 | exact mapp m3) (by first | exact tc_34 | exact tc_35 | exact tc_36 | exact tc_0 | exact tc_1 | rfl)) (hs2) ?_
  refine TW.e rfl rfl rfl rfl (K1 rfl fn151 rfl (C151 (by omega) hs2)) ?_
  rintro r3 w3 ⟨J3, L3, hj3, ho3, hs3⟩
  refine ⟨(hs3.drop.le hj3), ?_⟩
  refine TW.e rfl rfl rfl rfl (K1 rfl fn152 rfl (C152n (by omega) (by omega) hs3)) ?_
  rintro r4 w4 ⟨L4, ho4, hs4⟩
  refine ⟨(hs4.drop.drop.le hj3), ?_⟩
  refine TW.e rfl rfl rfl rfl (EF_app2 rfl rfl rfl ho3 ho4 (by first | omega | (simp only [List.length_append]; omega)) hs4) ?_
  rintro r5 w5 ⟨L5, ho5, hs5⟩
  refine ⟨(hs5.drop.le hj3), ?_⟩
  refine TW.qn rfl rfl rfl rfl (T := fun _ => True) (PV_assign rfl rfl) trivial (by kernel_rfl) ?_
  refine TW.done (nxt ?_)
  repeat first | apply W.seq | apply W.region
  refine W.drawsH hs5.drop [(0, true), (1, true), (2, true), (4, true), (5, true), (3, false), (6, false), (7, false), (8, false)] mixed (by kernel_rfl) (by kernel_rfl) ?_
  have hs6 := hs5.drew
  refine TW.p rfl rfl rfl rfl (PV_move rfl rfl) (hs6.drop) ?_
  refine TW.p rfl rfl rfl rfl (by first | exact PV_fieldAddr0 rfl rfl fa26_2 | exact PV_fieldAddr rfl rfl fa26_2) (hs6.drop) ?_
  refine TW.p rfl rfl rfl rfl (PV_sliceArr rfl Tryz.underlying24 rfl sz5) (hs6.drop) ?_
  refine TW.p rfl rfl rfl rfl (by first | exact PV_fieldAddr0 rfl rfl fa26_3 | exact PV_fieldAddr rfl rfl fa26_3) (hs6.drop) ?_
  refine TW.s rfl rfl rfl rfl (PV_loadM1 rfl ag9 rfl (by first | exact m0 | exact m1 | exact m2 | exact m3 | exact m4 | exact m5 | exact mapp m0 | exact mapp m1 | exact mapp m2 | exact mapp m3) (by first | exact tc_34 | exact tc_35 | exact tc_36 | exact tc_0 | exact tc_1 | rfl)) (hs6.drop) ?_
  refine TW.e rfl rfl rfl rfl (EF_app1 (B := t.sum) rfl rfl rfl ho5 (by rw [t.h]; exact rdMem (off := 0) (p := 2) (k := 32) (Mem.of_own (cs := tcells t) (mapp m0) (by simp) (part_whole rfl)) tc_sum (by rw [length_tcells]; decide) (Nat.le_refl _) hs6) (by simp only [List.length_append]; omega) hs6) ?_
  rintro r7 w7 ⟨L7, ho7, hs7⟩
  refine ⟨(hs7.drop), ?_⟩
  refine TW.e rfl rfl rfl rfl (K1 rfl fn151 rfl (C151 (by omega) hs7)) ?_
  rintro r8 w8 ⟨J8, L8, hj8, ho8, hs8⟩
  refine ⟨(hs8.drop.drop.le hj8), ?_⟩
  refine TW.e rfl rfl rfl rfl (EF_app2 rfl rfl rfl ho7 ho8 (by first | omega | (simp only [List.length_append]; omega)) hs8) ?_
  rintro r9 w9 ⟨L9, ho9, hs9⟩
  refine ⟨(hs9.drop.le hj8), ?_⟩
  refine TW.qn rfl rfl rfl rfl (T := fun _ => True) (PV_assign rfl rfl) trivial (by kernel_rfl) ?_
  refine TW.done (nxt ?_)
  repeat first | apply W.seq | apply W.region
  refine W.drawsH hs9.drop [(0, true), (1, true), (2, true), (5, true), (6, true), (3, false), (4, false), (7, false), (8, false), (9, false)] mixed (by kernel_rfl) (by kernel_rfl) ?_
  have hs10 := hs9.drew
  refine TW.p rfl rfl rfl rfl (PV_move rfl rfl) (hs10.drop) ?_
  refine TW.p rfl rfl rfl rfl (by first | exact PV_fieldAddr0 rfl rfl fa26_4 | exact PV_fieldAddr rfl rfl fa26_4) (hs10.drop) ?_
  refine TW.s rfl rfl rfl rfl (PV_loadM1 rfl ag3 rfl (by first | exact m0 | exact m1 | exact m2 | exact m3 | exact m4 | exact m5 | exact mapp m0 | exact mapp m1 | exact mapp m2 | exact mapp m3) (by first | exact tc_34 | exact tc_35 | exact tc_36 | exact tc_0 | exact tc_1 | rfl)) (hs10.drop) ?_
  refine TW.p rfl rfl rfl rfl (by first | exact PV_fieldAddr0 rfl rfl fa26_5 | exact PV_fieldAddr rfl rfl fa26_5) (hs10.drop) ?_
  refine TW.s rfl rfl rfl rfl (PV_loadM1 rfl ag9 rfl (by first | exact m0 | exact m1 | exact m2 | exact m3 | exact m4 | exact m5 | exact mapp m0 | exact mapp m1 | exact mapp m2 | exact mapp m3) (by first | exact tc_34 | exact tc_35 | exact tc_36 | exact tc_0 | exact tc_1 | rfl)) (hs10.drop) ?_
  refine TW.e rfl rfl rfl rfl (K1 rfl fn152 rfl (C152n (by omega) (by omega) hs10)) ?_
  rintro r11 w11 ⟨L11, ho11, hs11⟩
  refine ⟨(hs11.drop.drop), ?_⟩
  refine TW.e rfl rfl rfl rfl (EF_app2 rfl rfl rfl ho9 ho11 (by first | omega | (simp only [List.length_append]; omega)) hs11) ?_
  rintro r12 w12 ⟨L12, ho12, hs12⟩
  refine ⟨(hs12.drop), ?_⟩
  refine TW.e rfl rfl rfl rfl (K1 rfl fn151 rfl (C151 (by omega) hs12)) ?_
  rintro r13 w13 ⟨J13, L13, hj13, ho13, hs13⟩
  refine ⟨(hs13.drop.drop.le hj13), ?_⟩
  refine TW.e rfl rfl rfl rfl (EF_app2 rfl rfl rfl ho12 ho13 (by first | omega | (simp only [List.length_append]; omega)) hs13) ?_
  rintro r14 w14 ⟨L14, ho14, hs14⟩
  refine ⟨(hs14.drop.le hj13), ?_⟩
  refine TW.qn rfl rfl rfl rfl (T := fun _ => True) (PV_assign rfl rfl) trivial (by kernel_rfl) ?_
  refine TW.done (nxt ?_)
  repeat first | apply W.seq | apply W.region
  exact W.ret (ret_tmp rfl rfl ⟨_, rfl, J13, L14, (hj3.trans hj8).trans hj13, ho14, hs14.del (Del.app x0)⟩)

theorem C133 {s : ByteArray} {v e : Int} {lv : Value} {K : List Tgt} (hok : ∀ t ∈ K, t.ok) (h : targetsB s v e K = true) (hv : SlM G M I 37 lv K.length (lcells K)) (hs : Sat G M I w) : Calls Tryz.prog 133 #[aggL [.string s, .int .i64 v, .int .i64 e, lv, .slice none 0 0]] w (Ret fun r w' => ∃ J u L, Le I J ∧ r = .tuple #[u, .int .i64 0] ∧ OwnS 5 1 u (bcells (nums [4] ++ targetsE s v e K)) L ∧ Sat G (L ++ M) J w') := by
  obtain ⟨hn, hvv, hee, h16, htg, hbef⟩ := targets_in h
  replace hvv := version_in hvv
  replace hee := num_in hee
  obtain ⟨A, c, rfl, hc⟩ := hv.shape
  have hnl := name_len hn
  have e1 := len_row hnl
  have e2 := len_num (x := 4) (by decide) (by decide)
  have e4 := len_num (x := ((0 : Nat) : Int)) (by decide) (by decide)
  have hns : ∀ a, a ∈ [v, e, (K.length : Int)] → 0 ≤ a ∧ a < 2 ^ 40 := nums3 (by omega) (by omega) (by omega)
  have e3 := len_nums hns
  dsimp only [List.length_cons, List.length_nil] at e3
  refine enter1 Tryz.func133 rfl Tryz.ntmps133 rfl ?_
  repeat first | apply W.seq | apply W.region
  refine RL.e rfl rfl rfl (EF_boxA rfl rfl hs) ?_
  rintro r1 w1 ⟨b1, rfl, hs1⟩
  refine RL.p rfl rfl rfl (PV_assign rfl rfl) ?_
  refine RL.p rfl rfl rfl (PV_assign rfl rfl) ?_
  refine RL.done (nxt ?_)
  repeat first | apply W.seq | apply W.region
  refine RL.s rfl rfl rfl (PV_loadMA (r := [.string s, .int .i64 v, .int .i64 e, .slice A K.length c, .slice none 0 0]) rfl ag70 sz70 rfl m0 (by simp) rfl) hs1 ?_
  refine RL.e rfl rfl rfl (K1 rfl fn154 rfl (C154 h (hv.mono fun _ h => h.tail) hs1)) ?_
  rintro r2 w2 ⟨rfl, hs2⟩
  refine RL.p rfl rfl rfl (PV_not rfl rfl) ?_
  refine RL.done (nxt ?_)
  repeat first | apply W.seq | apply W.region
  refine W.cond rfl (fun h1 => ?_) (fun h1 => ?_)
  · cases h1
  refine W.skip (nxt ?_)
  repeat first | apply W.seq | apply W.region
  refine W.drawsH hs2 [(1, true), (2, true), (0, false), (3, false), (4, false), (5, false)] mixed (by kernel_rfl) (by kernel_rfl) ?_
  have hs3 := hs2.drew
  refine TW.p rfl rfl rfl rfl (by first | exact PV_fieldAddr0 rfl rfl fa70_0 | exact PV_fieldAddr rfl rfl fa70_0) (hs3) ?_
  refine TW.s rfl rfl rfl rfl (PV_loadM1 rfl ag9 rfl (by first | exact m0 | exact m1 | exact m2 | exact m3 | exact m4 | exact m5 | exact mapp m0 | exact mapp m1 | exact mapp m2 | exact mapp m3) (by first | exact tc_34 | exact tc_35 | exact tc_36 | exact tc_0 | exact tc_1 | rfl)) (hs3) ?_
  refine TW.e rfl rfl rfl rfl (K1 rfl fn152 rfl (C152n (by omega) (by omega) hs3)) ?_
  rintro r4 w4 ⟨L4, ho4, hs4⟩
  refine ⟨(hs4.drop), ?_⟩
  refine TW.e rfl rfl rfl rfl (K1 rfl fn151 rfl (C151 (by omega) hs4)) ?_
  rintro r5 w5 ⟨J5, L5, hj5, ho5, hs5⟩
  refine ⟨(hs5.drop.drop.le hj5), ?_⟩
  refine TW.e rfl rfl rfl rfl (EF_app2 rfl rfl rfl ho4 ho5 (by first | omega | (simp only [List.length_append]; omega)) hs5) ?_
  rintro r6 w6 ⟨L6, ho6, hs6⟩
  refine ⟨(hs6.drop.le hj5), ?_⟩
  refine TW.qn rfl rfl rfl rfl (T := fun _ => True) (PV_assign rfl rfl) trivial (by kernel_rfl) ?_
  refine TW.done (nxt ?_)
  repeat first | apply W.seq | apply W.region
  refine RL.p rfl rfl rfl (PV_move rfl rfl) ?_
  refine RL.p rfl rfl rfl (by first | exact PV_fieldAddr0 rfl rfl fa70_1 | exact PV_fieldAddr rfl rfl fa70_1) ?_
  refine RL.s rfl rfl rfl (PV_loadM1 rfl ag3 rfl (by first | exact m0 | exact m1 | exact m2 | exact m3 | exact m4 | exact m5 | exact mapp m0 | exact mapp m1 | exact mapp m2 | exact mapp m3) (by first | exact tc_34 | exact tc_35 | exact tc_36 | exact tc_0 | exact tc_1 | rfl)) hs6 ?_
  refine RL.p rfl rfl rfl (by first | exact PV_fieldAddr0 rfl rfl fa70_2 | exact PV_fieldAddr rfl rfl fa70_2) ?_
  refine RL.s rfl rfl rfl (PV_loadM1 rfl ag3 rfl (by first | exact m0 | exact m1 | exact m2 | exact m3 | exact m4 | exact m5 | exact mapp m0 | exact mapp m1 | exact mapp m2 | exact mapp m3) (by first | exact tc_34 | exact tc_35 | exact tc_36 | exact tc_0 | exact tc_1 | rfl)) hs6 ?_
  refine RL.p rfl rfl rfl (by first | exact PV_fieldAddr0 rfl rfl fa70_3 | exact PV_fieldAddr rfl rfl fa70_3) ?_
  refine RL.s rfl rfl rfl (PV_loadM1 rfl ag22 rfl (by first | exact m0 | exact m1 | exact m2 | exact m3 | exact m4 | exact m5 | exact mapp m0 | exact mapp m1 | exact mapp m2 | exact mapp m3) (by first | exact tc_34 | exact tc_35 | exact tc_36 | exact tc_0 | exact tc_1 | rfl)) hs6 ?_
  refine RL.p rfl rfl rfl (PV_len rfl Tryz.underlying22 rfl) ?_
  refine RL.e rfl rfl rfl (EF_bs3c rfl el178 rfl rfl rfl rfl rfl rfl hs6) ?_
  rintro r7 w7 ⟨b23, rfl, hs7⟩
  refine RL.e rfl rfl rfl (K1 rfl fn144 rfl (C144n (ns := [v, e, (K.length : Int)]) hns rfl (by decide) m0 hs7)) ?_
  rintro r8 w8 ⟨L8, ho8, hs8⟩
  refine RL.e rfl rfl rfl (EF_app2 rfl rfl rfl ho6 ho8 (by first | omega | (simp only [List.length_append]; omega)) (hs8.del (Del.app x0))) ?_
  rintro r9 w9 ⟨L9, ho9, hs9⟩
  refine RL.p rfl rfl rfl (PV_assign rfl rfl) ?_
  refine RL.done (nxt ?_)
  repeat first | apply W.seq | apply W.region
  refine RL.p rfl rfl rfl (PV_assign rfl rfl) ?_
  refine RL.done (nxt ?_)
  repeat first | apply W.seq | apply W.region
  refine W.block ?_
  repeat first | apply W.seq | apply W.region
  refine W.loop (F := fun z : Nat × Value => [(5, .int .i64 (z.1 : Int)), (4, z.2), (1, ptr b1 0)]) (J := fun z w => z.1 ≤ K.length ∧ ∃ J L, Le I J ∧ OwnS 5 1 z.2 (bcells (nums [4] ++ rowB (sbytes s) ++ nums [v, e, (K.length : Int)] ++ (K.take z.1).flatMap targetE)) L ∧ Sat G (L ++ (b1, [.string s, .int .i64 v, .int .i64 e, .slice A K.length c, .slice none 0 0], 70) :: M) J w) (m := fun z => K.length - z.1) (0, r9) (by repeat first | exact Sub.nil | refine Sub.cons rfl ?_) ⟨by omega, J5, L9, hj5, by rw [List.take_zero, List.flatMap_nil, List.append_nil]; exact ho9, hs9⟩ ?_
  rintro ⟨i, y⟩ w10 ⟨hi, J10, L, hj10, ho, hs10⟩
  dsimp only at hi ho hs10
  have ht1 : ∀ t ∈ K.take i, t.ok := fun t ht => hok t (List.mem_of_mem_take ht)
  have ht2 : ∀ t ∈ K.take i, targetB t = true := fun t ht => by
    obtain ⟨j, hj⟩ := List.mem_iff_getElem?.1 (List.mem_of_mem_take ht)
    exact htg j t hj
  have e5 := len_targets ht1 ht2
  rw [List.length_take] at e5
  repeat first | apply W.seq | apply W.region
  refine RL.p rfl rfl rfl (PV_move rfl rfl) ?_
  refine RL.p rfl rfl rfl (by first | exact PV_fieldAddr0 rfl rfl fa70_3 | exact PV_fieldAddr rfl rfl fa70_3) ?_
  refine RL.s rfl rfl rfl (PV_loadM1 rfl ag22 rfl (by first | exact m0 | exact m1 | exact m2 | exact m3 | exact m4 | exact m5 | exact mapp m0 | exact mapp m1 | exact mapp m2 | exact mapp m3) (by first | exact tc_34 | exact tc_35 | exact tc_36 | exact tc_0 | exact tc_1 | rfl)) hs10 ?_
  refine RL.p rfl rfl rfl (PV_len rfl Tryz.underlying22 rfl) ?_
  refine RL.p rfl rfl rfl (PV_lss rfl rfl rfl) ?_
  refine RL.done (nxt ?_)
  repeat first | apply W.seq | apply W.region
  refine W.cond rfl (fun h2 => ?_) (fun h2 => ?_)
  ·
    have hi1 : i < K.length := by have := of_decide_eq_true h2; dsimp only at this; omega
    obtain ⟨bb, off, c1, hab, hc1, hmem⟩ := hv.elem (by omega)
    simp only [Value.slice.injEq] at hab
    obtain ⟨rfl, -, rfl⟩ := hab
    obtain ⟨t, hte⟩ : ∃ t, t = K[i] := ⟨_, rfl⟩
    have ht : K[i]? = some t := by rw [hte]; exact List.getElem?_eq_getElem hi1
    have e6 := len_target (hok t (List.mem_of_getElem? ht)) (htg i t ht)
    refine W.skip (nxt ?_)
    repeat first | apply W.seq | apply W.region
    refine W.block ?_
    repeat first | apply W.seq | apply W.region
    refine RL.p rfl rfl rfl (PV_move rfl rfl) ?_
    refine RL.p rfl rfl rfl (by first | exact PV_fieldAddr0 rfl rfl fa70_3 | exact PV_fieldAddr rfl rfl fa70_3) ?_
    refine RL.s rfl rfl rfl (PV_loadM1 rfl ag22 rfl (by first | exact m0 | exact m1 | exact m2 | exact m3 | exact m4 | exact m5 | exact mapp m0 | exact mapp m1 | exact mapp m2 | exact mapp m3) (by first | exact tc_34 | exact tc_35 | exact tc_36 | exact tc_0 | exact tc_1 | rfl)) hs10 ?_
    refine RL.p rfl rfl rfl (PV_move rfl rfl) ?_
    refine RL.p rfl rfl rfl (PV_indexAddr rfl Tryz.underlying22 sz26 rfl rfl rfl (by omega)) ?_
    refine RL.s rfl rfl rfl (PV_loadMemA (r := tcells t) (j := i * 37) rfl ag26 sz26 rfl (fun _ h => h.drop.tail.le hj10) hmem (by rw [length_lcells]; omega) (part_lcells ht)) hs10 ?_
    refine RL.e rfl rfl rfl (K1 rfl fn155 rfl (C155 (htg i t ht) hs10)) ?_
    rintro r11 w11 ⟨J11, L11, hj11, ho11, hs11⟩
    refine RL.e rfl rfl rfl (EF_app2 rfl rfl rfl ho ho11 (by first | omega | (simp only [List.length_append]; omega)) hs11) ?_
    rintro r12 w12 ⟨L12, ho12, hs12⟩
    refine RL.p rfl rfl rfl (PV_assign rfl rfl) ?_
    refine RL.done (nxt ?_)
    repeat first | apply W.seq | apply W.region
    refine RL.p rfl rfl rfl (PV_move rfl rfl) ?_
    refine RL.p rfl rfl rfl (PV_add rfl rfl rfl (by omega)) ?_
    refine RL.p rfl rfl rfl (PV_assign rfl rfl) ?_
    refine RL.done (round_end (i + 1, r12) ?_ ?_ ?_)
    · repeat first | exact Sub.nil | refine Sub.cons rfl ?_
    · exact ⟨by dsimp only; omega, J11, L12, hj10.trans hj11, by rw [List.take_succ_eq_append_getElem hi1, List.flatMap_append, ← hte, List.flatMap_cons, List.flatMap_nil, List.append_nil, ← List.append_assoc]; exact ho12, hs12⟩
    · first | omega | (dsimp only; omega)
  repeat first | apply W.seq | apply W.region
  obtain rfl : i = K.length := by have := of_decide_eq_false h2; dsimp only at this; omega
  rw [List.take_length] at ho e5
  refine  W.exit (nxt ?_)
  repeat first | apply W.seq | apply W.region
  refine RL.p rfl rfl rfl (PV_move rfl rfl) ?_
  refine RL.p rfl rfl rfl (by first | exact PV_fieldAddr0 rfl rfl fa70_4 | exact PV_fieldAddr rfl rfl fa70_4) ?_
  refine RL.s rfl rfl rfl (PV_loadM1 rfl ag68 rfl (by first | exact m0 | exact m1 | exact m2 | exact m3 | exact m4 | exact m5 | exact mapp m0 | exact mapp m1 | exact mapp m2 | exact mapp m3) (by first | exact tc_34 | exact tc_35 | exact tc_36 | exact tc_0 | exact tc_1 | rfl)) hs10 ?_
  refine RL.p rfl rfl rfl (PV_len rfl Tryz.underlying68 rfl) ?_
  refine RL.e rfl rfl rfl (K1 rfl fn152 rfl (C152n (by omega) (by omega) hs10)) ?_
  rintro r11 w11 ⟨L11, ho11, hs11⟩
  refine RL.e rfl rfl rfl (EF_app2 rfl rfl rfl ho ho11 (by first | omega | (simp only [List.length_append]; omega)) hs11) ?_
  rintro r12 w12 ⟨L12, ho12, hs12⟩
  refine RL.p rfl rfl rfl (PV_assign rfl rfl) ?_
  refine RL.done (nxt ?_)
  repeat first | apply W.seq | apply W.region
  refine RL.p rfl rfl rfl (PV_assign rfl rfl) ?_
  refine RL.done (nxt ?_)
  repeat first | apply W.seq | apply W.region
  refine W.block ?_
  repeat first | apply W.seq | apply W.region
  refine W.loop (F := fun _ : Unit => [(6, .int .i64 0), (4, r12), (1, ptr b1 0)]) (J := fun _ w => Sat G (L12 ++ (b1, [.string s, .int .i64 v, .int .i64 e, .slice A K.length c, .slice none 0 0], 70) :: M) J10 w) (m := fun _ => 0) () (by repeat first | exact Sub.nil | refine Sub.cons rfl ?_) hs12 ?_
  rintro _ w13 hs13
  repeat first | apply W.seq | apply W.region
  refine RL.p rfl rfl rfl (PV_move rfl rfl) ?_
  refine RL.p rfl rfl rfl (by first | exact PV_fieldAddr0 rfl rfl fa70_4 | exact PV_fieldAddr rfl rfl fa70_4) ?_
  refine RL.s rfl rfl rfl (PV_loadM1 rfl ag68 rfl (by first | exact m0 | exact m1 | exact m2 | exact m3 | exact m4 | exact m5 | exact mapp m0 | exact mapp m1 | exact mapp m2 | exact mapp m3) (by first | exact tc_34 | exact tc_35 | exact tc_36 | exact tc_0 | exact tc_1 | rfl)) hs13 ?_
  refine RL.p rfl rfl rfl (PV_len rfl Tryz.underlying68 rfl) ?_
  refine RL.p rfl rfl rfl (PV_lss rfl rfl rfl) ?_
  refine RL.done (nxt ?_)
  repeat first | apply W.seq | apply W.region
  refine W.cond rfl (fun h3 => ?_) (fun h3 => ?_)
  · exact absurd (of_decide_eq_true h3) (by decide)
  repeat first | apply W.seq | apply W.region
  refine W.exit (nxt ?_)
  repeat first | apply W.seq | apply W.region
  refine RL.p rfl rfl rfl (PV_move rfl rfl) ?_
  refine RL.p rfl rfl rfl (PV_assign rfl rfl) ?_
  refine RL.p rfl rfl rfl (PV_assign rfl rfl) ?_
  refine RL.done (nxt ?_)
  repeat first | apply W.seq | apply W.region
  exact W.ret (ret_tmp2 rfl rfl rfl ⟨_, rfl, J10, _, L12, hj10, rfl, by rw [targetsE, tgtsE]; have ho12 : OwnS 5 1 r12 (bcells (nums [4] ++ rowB (sbytes s) ++ nums [v, e, (K.length : Int)] ++ K.flatMap targetE ++ nums [0])) L12 := ho12; simpa only [nums_cons, nums_nil, List.append_assoc, List.nil_append, List.append_nil] using ho12, hs13.del (Del.app x0)⟩)

end Go.Proofs.YtecbpmgfikgoaaaGreatDoor
