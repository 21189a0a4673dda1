/- Walks of functions 152 144 174 151: what each call gives back, and that it writes nothing of anybody else's. Conditions: as each theorem says. -/
import Derived.Test.YtecbpmgfikgoaaaGreatDoorW1
set_option linter.unusedVariables false
set_option linter.unusedSimpArgs false
set_option maxRecDepth 8000
set_option maxHeartbeats 4000000
namespace Go.Proofs.YtecbpmgfikgoaaaGreatDoor
open Go Go.RowKit
variable {G w : World} {M : List Chunk} {I : Imm}

theorem or128 (q : Nat) : UInt8.ofNat (q &&& 127) ||| 128 = UInt8.ofNat q ||| 128 := by
  have key : ∀ n : Fin 256, (n.val % 128) ||| 128 = n.val ||| 128 := by decide
  have h1 : q &&& 127 = q % 128 := Nat.and_two_pow_sub_one_eq_mod q 7
  apply UInt8.toNat_inj.1
  have h2 := key ⟨q % 256, Nat.mod_lt _ (by decide)⟩
  simp only [UInt8.toNat_or, UInt8.toNat_ofNat', h1]
  have e1 : q % 128 % 2 ^ 8 = q % 256 % 128 := by omega
  rw [e1]
  exact h2
theorem length_numB40 {u : Nat} (h : u < 2 ^ 40) : (numB u).length ≤ 6 := length_numB 6 u (by omega)
theorem clamp_nat {u : Nat} (h : u < 2 ^ 40) : clamp (u : Int) = u := by unfold clamp; omega
theorem nums_nil : nums [] = [] := rfl
theorem nums_cons (x : Int) (l : List Int) : nums (x :: l) = numB (clamp x) ++ nums l := by simp [nums]

theorem rowB_eq {l : List UInt8} (h : l.length < 2 ^ 40) : rowB l = numB l.length ++ l := by rw [rowB, nums_cons, nums_nil, clamp_nat h, List.append_nil]
theorem Sat.swp {A B C : List Chunk} (h : Sat G (A ++ (B ++ C)) I w) : Sat G (B ++ (A ++ C)) I w := h.perm (by classical exact List.perm_iff_count.2 fun a => by simp only [List.count_append]; ac_rfl)
theorem Sat.drop2 {A B C : List Chunk} (h : Sat G (A ++ (B ++ C)) I w) : Sat G (A ++ C) I w := h.swp.drop
theorem length_nums40 {l : List Int} (h : ∀ x, x ∈ l → ∃ u : Nat, x = (u : Int) ∧ u < 2 ^ 40) : (nums l).length ≤ 6 * l.length := by
  induction l with
  | nil => simp [nums]
  | cons x l ih =>
    obtain ⟨u, rfl, hu⟩ := h x (by simp)
    have h1 := length_numB40 hu
    have h2 := ih fun y hy => h y (by simp [hy])
    rw [nums_cons, List.length_append, clamp_nat hu, List.length_cons]
    omega

theorem C152 {u : Nat} (hu : u < 2 ^ 40) (hs : Sat G M I w) : Calls Tryz.prog 152 #[.int .i64 (u : Int)] w (Ret fun r w' => ∃ L, OwnS 5 1 r (bcells (numB u)) L ∧ Sat G (L ++ M) I w') := by
  refine enter1 Tryz.func152 rfl Tryz.ntmps152 rfl ?_
  repeat first | apply W.seq | apply W.region
  refine RL.p rfl rfl rfl (PV_assign rfl rfl) ?_
  refine RL.done (nxt ?_)
  repeat first | apply W.seq | apply W.region
  refine RL.p rfl rfl rfl (PV_assign rfl rfl) ?_
  refine RL.done (nxt ?_)
  repeat first | apply W.seq | apply W.region
  refine RL.p rfl rfl rfl (PV_move rfl rfl) ?_
  refine RL.p rfl rfl rfl (PV_gtr rfl rfl rfl) ?_
  refine RL.done (nxt ?_)
  repeat first | apply W.seq | apply W.region
  refine W.cond rfl (fun h1 => ?_) (fun h1 => ?_)
  · exact absurd (of_decide_eq_true h1) (by omega)
  repeat first | apply W.seq | apply W.region
  refine RL.p rfl rfl rfl (PV_move rfl rfl) ?_
  refine RL.p rfl rfl rfl (PV_gtr rfl rfl rfl) ?_
  refine RL.done (nxt ?_)
  repeat first | apply W.seq | apply W.region
  refine W.cut (fun x : Int => [(3, .int .u64 x)]) (fun x w => x = (u : Int) ∧ Sat G M I w) ?_ ?_
  ·
    refine W.cond rfl (fun h2 => ?_) (fun h2 => ?_)
    ·
      repeat first | apply W.seq | apply W.region
      refine RL.p rfl rfl rfl (PV_move rfl rfl) ?_
      refine RL.p rfl rfl rfl (PV_conv_i64_u64 (m := u) rfl Tryz.underlying3 Tryz.underlying161 rfl rfl (by omega)) ?_
      refine RL.p rfl rfl rfl (PV_assign rfl rfl) ?_
      exact RL.done (cut_end (F := (fun x : Int => [(3, .int .u64 x)])) (J := (fun x w => x = (u : Int) ∧ Sat G M I w)) _ (by repeat first | exact Sub.nil | refine Sub.cons rfl ?_) (by exact (by first | exact ⟨rfl, hs⟩ | exact ⟨by have := of_decide_eq_false h2; omega, hs⟩)))
    ·
      exact W.skip (cut_end (F := (fun x : Int => [(3, .int .u64 x)])) (J := (fun x w => x = (u : Int) ∧ Sat G M I w)) _ (by repeat first | exact Sub.nil | refine Sub.cons rfl ?_) (by exact (by first | exact ⟨rfl, hs⟩ | exact ⟨by have := of_decide_eq_false h2; omega, hs⟩)))
  rintro x w100 ⟨rfl, hs100⟩
  refine nxt ?_
  repeat first | apply W.seq | apply W.region
  refine RL.p rfl rfl rfl (PV_assign rfl rfl) ?_
  refine RL.done (nxt ?_)
  repeat first | apply W.seq | apply W.region
  refine W.block ?_
  repeat first | apply W.seq | apply W.region
  refine W.loop (F := fun z : Nat × Value => [(3, .int .u64 (z.1 : Int)), (4, z.2)]) (J := fun z w => z.1 ≤ u ∧ ∃ pre L, pre ++ numB z.1 = numB u ∧ OwnS 5 1 z.2 (bcells pre) L ∧ Sat G (L ++ M) I w) (m := fun z => z.1) (u, .slice none 0 0) (by repeat first | exact Sub.nil | refine Sub.cons rfl ?_) ⟨Nat.le_refl _, [], [], rfl, OwnS.nil, hs100⟩ ?_
  rintro ⟨q, x⟩ w101 ⟨hq, pre, L, hpre, ho, hs101⟩
  repeat first | apply W.seq | apply W.region
  refine RL.p rfl rfl rfl (PV_move rfl rfl) ?_
  refine RL.p rfl rfl rfl (PV_geq rfl rfl rfl) ?_
  refine RL.done (nxt ?_)
  repeat first | apply W.seq | apply W.region
  refine W.cond rfl (fun h3 => ?_) (fun h3 => ?_)
  ·
    dsimp only at hq hpre ho
    have hq128 : 128 ≤ q := by have := of_decide_eq_true h3; omega
    have hpl : pre.length ≤ 6 := by have := congrArg List.length hpre; have := length_numB40 hu; simp at *; omega
    refine W.skip (nxt ?_)
    repeat first | apply W.seq | apply W.region
    refine W.block ?_
    repeat first | apply W.seq | apply W.region
    refine RL.p rfl rfl rfl (PV_move rfl rfl) ?_
    refine RL.p rfl rfl rfl (PV_move rfl rfl) ?_
    refine RL.p rfl rfl rfl (PV_u64_and (a := q) (b := 127) rfl rfl rfl rfl rfl (by omega) (by decide)) ?_
    refine RL.p rfl rfl rfl (PV_conv_u64_u8 (m := q &&& 127) rfl Tryz.underlying161 Tryz.underlying5 rfl rfl) ?_
    refine RL.p rfl rfl rfl (PV_u8_or (q := 128) rfl rfl rfl) ?_
    refine RL.e rfl rfl rfl (EF_bs1c rfl el60 rfl rfl hs101) ?_
    rintro r102 w102 ⟨b18, rfl, hs102⟩
    refine RL.e rfl rfl rfl (EF_append (l := pre.length) (m := 1) (olds := bcells pre) (news := [u8v (UInt8.ofNat (q &&& 127) ||| 128)]) rfl el60 rfl rfl ho (by rw [length_bcells]; exact (Nat.mul_one _).symm) (rdW (m := 1) hs102 m0 rfl (Nat.le_refl _)) rfl (by omega) (by decide) hs102.mid) ?_
    rintro r103 w103 ⟨L103, ho103, hs103⟩
    refine RL.p rfl rfl rfl (PV_assign rfl rfl) ?_
    refine RL.done (nxt ?_)
    repeat first | apply W.seq | apply W.region
    refine RL.p rfl rfl rfl (PV_move rfl rfl) ?_
    refine RL.p rfl rfl rfl (PV_u64_shr (m := q) (j := 7) rfl rfl rfl rfl rfl (by decide)) ?_
    refine RL.p rfl rfl rfl (PV_assign rfl rfl) ?_
    refine RL.done (round_end (q / 2 ^ 7, r103) ?_ ?_ ?_)
    · repeat first | exact Sub.nil | refine Sub.cons rfl ?_
    · exact ⟨by dsimp only; omega, pre ++ [UInt8.ofNat q ||| 0x80], L103, by rw [← hpre, numB_ge (u := q) (by omega)]; simp, by rw [bcells_append, ← or128]; exact ho103, hs103.del (Del.app x0)⟩
    · first | omega | (dsimp only; omega)
  repeat first | apply W.seq | apply W.region
  dsimp only at hq hpre ho
  have hq128 : q < 128 := by have := of_decide_eq_false h3; omega
  have hpl : pre.length ≤ 6 := by have := congrArg List.length hpre; have := length_numB40 hu; simp at *; omega
  refine  W.exit (nxt ?_)
  repeat first | apply W.seq | apply W.region
  refine RL.p rfl rfl rfl (PV_move rfl rfl) ?_
  refine RL.p rfl rfl rfl (PV_move rfl rfl) ?_
  refine RL.p rfl rfl rfl (PV_conv_u64_u8 (m := q) rfl Tryz.underlying161 Tryz.underlying5 rfl rfl) ?_
  refine RL.e rfl rfl rfl (EF_bs1c rfl el60 rfl rfl hs101) ?_
  rintro r102 w102 ⟨b25, rfl, hs102⟩
  refine RL.e rfl rfl rfl (EF_append (l := pre.length) (m := 1) (olds := bcells pre) (news := [u8v (UInt8.ofNat q)]) rfl el60 rfl rfl ho (by rw [length_bcells]; exact (Nat.mul_one _).symm) (rdW (m := 1) hs102 m0 rfl (Nat.le_refl _)) rfl (by omega) (by decide) hs102.mid) ?_
  rintro r103 w103 ⟨L103, ho103, hs103⟩
  refine RL.p rfl rfl rfl (PV_assign rfl rfl) ?_
  refine RL.done (nxt ?_)
  repeat first | apply W.seq | apply W.region
  exact W.ret (ret_tmp rfl rfl ⟨_, rfl, L103, by rw [← hpre, numB_lt hq128, bcells_append]; exact ho103, hs103.del (Del.app x0)⟩)

theorem C144 {v : Value} {ns : List Int} (hns : ∀ x, x ∈ ns → ∃ u : Nat, x = (u : Int) ∧ u < 2 ^ 40) (hl : ns.length ≤ 2 ^ 10) (hv : SlM G M I 1 v ns.length (icells ns)) (hs : Sat G M I w) : Calls Tryz.prog 144 #[v] w (Ret fun r w' => ∃ L, OwnS 5 1 r (bcells (nums ns)) L ∧ Sat G (L ++ M) I w') := by
  obtain ⟨A, c, rfl, hc⟩ := hv.shape
  refine enter1 Tryz.func144 rfl Tryz.ntmps144 rfl ?_
  repeat first | apply W.seq | apply W.region
  refine RL.p rfl rfl rfl (PV_assign rfl rfl) ?_
  refine RL.done (nxt ?_)
  repeat first | apply W.seq | apply W.region
  refine RL.p rfl rfl rfl (PV_assign rfl rfl) ?_
  refine RL.done (nxt ?_)
  repeat first | apply W.seq | apply W.region
  refine RL.p rfl rfl rfl (PV_assign rfl rfl) ?_
  refine RL.done (nxt ?_)
  repeat first | apply W.seq | apply W.region
  refine W.block ?_
  repeat first | apply W.seq | apply W.region
  refine W.loop (F := fun z : Nat × Value => [(4, .int .i64 (z.1 : Int)), (3, z.2), (0, .slice A ns.length c)]) (J := fun z w => z.1 ≤ ns.length ∧ ∃ L, OwnS 5 1 z.2 (bcells (nums (ns.take z.1))) L ∧ Sat G (L ++ M) I w) (m := fun z => ns.length - z.1) (0, .slice none 0 0) (by repeat first | exact Sub.nil | refine Sub.cons rfl ?_) ⟨by omega, [], OwnS.nil, hs⟩ ?_
  rintro ⟨i, x⟩ w1 ⟨hi, L, ho, hs1⟩
  repeat first | apply W.seq | apply W.region
  refine RL.p rfl rfl rfl (PV_move rfl rfl) ?_
  refine RL.p rfl rfl rfl (PV_move rfl rfl) ?_
  refine RL.p rfl rfl rfl (PV_len rfl Tryz.underlying178 rfl) ?_
  refine RL.p rfl rfl rfl (PV_lss rfl rfl rfl) ?_
  refine RL.done (nxt ?_)
  repeat first | apply W.seq | apply W.region
  refine W.cond rfl (fun h1 => ?_) (fun h1 => ?_)
  ·
    dsimp only at hi ho hs1
    have hin : i < ns.length := by have := of_decide_eq_true h1; omega
    obtain ⟨bb, off, c', he, _, hmem⟩ := hv.elem (by omega)
    obtain ⟨rfl, rfl⟩ : A = some ⟨bb, off, none⟩ ∧ c = c' := by simpa using he
    obtain ⟨y, hix⟩ : ∃ y, ns[i]? = some y := ⟨_, List.getElem?_eq_getElem hin⟩
    obtain ⟨u, rfl, hu⟩ := hns y (List.mem_of_getElem? hix)
    have hib : (icells ns)[i]? = some (.int .i64 (u : Int)) := by rw [icells, List.getElem?_map, hix]; rfl
    have hpl := length_nums40 (l := ns.take i) fun x hx => hns x (List.mem_of_mem_take hx)
    have hll := length_numB40 hu
    rw [List.length_take] at hpl
    refine  W.skip (nxt ?_)
    repeat first | apply W.seq | apply W.region
    refine W.block ?_
    repeat first | apply W.seq | apply W.region
    refine RL.p rfl rfl rfl (PV_move rfl rfl) ?_
    refine RL.p rfl rfl rfl (PV_move rfl rfl) ?_
    refine RL.p rfl rfl rfl (PV_move rfl rfl) ?_
    refine RL.p rfl rfl rfl (PV_indexAddr1 i rfl Tryz.underlying178 sz3 rfl rfl rfl (by omega)) ?_
    refine RL.s rfl rfl rfl (PV_loadMem1 (j := i) rfl ag3 rfl (fun _ h => h.drop) hmem hib) hs1 ?_
    refine RL.e rfl rfl rfl (K1 rfl fn152 rfl (C152 hu hs1)) ?_
    rintro r2 w2 ⟨L2, ho2, hs2⟩
    refine RL.e rfl rfl rfl (EF_append (l := (nums (ns.take i)).length) (m := (numB u).length) (news := bcells (numB u)) rfl el60 rfl rfl ho (by rw [length_bcells]; exact (Nat.mul_one _).symm) (ho2.rd (by rw [length_bcells]; exact (Nat.mul_one _).symm) (by decide) hs2) (one1_bcells _) (by omega) (by decide) hs2.swp) ?_
    rintro r3 w3 ⟨L3, ho3, hs3⟩
    refine RL.p rfl rfl rfl (PV_assign rfl rfl) ?_
    refine RL.done (nxt ?_)
    repeat first | apply W.seq | apply W.region
    refine RL.p rfl rfl rfl (PV_move rfl rfl) ?_
    refine RL.p rfl rfl rfl (PV_add rfl rfl rfl (by omega)) ?_
    refine RL.p rfl rfl rfl (PV_assign rfl rfl) ?_
    refine RL.done (round_end (i + 1, r3) ?_ ?_ ?_)
    · repeat first | exact Sub.nil | refine Sub.cons rfl ?_
    · exact ⟨by dsimp only; omega, L3, by rw [nums_take hix, clamp_nat hu, bcells_append]; exact ho3, hs3.drop2⟩
    · first | omega | (dsimp only; omega)
  repeat first | apply W.seq | apply W.region
  dsimp only at hi ho hs1
  obtain rfl : i = ns.length := by have := of_decide_eq_false h1; dsimp only at this; omega
  rw [List.take_length] at ho
  refine  W.exit (nxt ?_)
  repeat first | apply W.seq | apply W.region
  refine RL.p rfl rfl rfl (PV_move rfl rfl) ?_
  refine RL.p rfl rfl rfl (PV_assign rfl rfl) ?_
  refine RL.done (nxt ?_)
  repeat first | apply W.seq | apply W.region
  exact W.ret (ret_tmp rfl rfl ⟨_, rfl, L, ho, hs1⟩)

theorem C174 {v : Value} {l : List UInt8} (hl : l.length < 2 ^ 30) (hv : SlM G M I 1 v l.length (bcells l)) (hs : Sat G M I w) : Calls Tryz.prog 174 #[v] w (Ret fun r w' => ∃ L, OwnS 5 1 r (bcells (rowB l)) L ∧ Sat G (L ++ M) I w') := by
  obtain ⟨A, c, rfl, hc⟩ := hv.shape
  have hll := length_numB40 (u := l.length) (by omega)
  refine enter1 Tryz.func174 rfl Tryz.ntmps174 rfl ?_
  repeat first | apply W.seq | apply W.region
  refine RL.p rfl rfl rfl (PV_assign rfl rfl) ?_
  refine RL.done (nxt ?_)
  repeat first | apply W.seq | apply W.region
  refine RL.p rfl rfl rfl (PV_move rfl rfl) ?_
  refine RL.p rfl rfl rfl (PV_len rfl Tryz.underlying60 rfl) ?_
  refine RL.e rfl rfl rfl (K1 rfl fn152 rfl (C152 (u := l.length) (by omega) hs)) ?_
  rintro r1 w1 ⟨L1, ho1, hs1⟩
  refine RL.p rfl rfl rfl (PV_move rfl rfl) ?_
  refine RL.e rfl rfl rfl (EF_append (l := (numB l.length).length) (m := l.length) (news := bcells l) rfl el60 rfl rfl ho1 (by rw [length_bcells]; exact (Nat.mul_one _).symm) (hv.rd hs1.drop) (one1_bcells _) (by omega) (by decide) hs1) ?_
  rintro r2 w2 ⟨L2, ho2, hs2⟩
  refine RL.p rfl rfl rfl (PV_assign rfl rfl) ?_
  refine RL.done (nxt ?_)
  repeat first | apply W.seq | apply W.region
  exact W.ret (ret_tmp rfl rfl ⟨_, rfl, L2, by rw [rowB_eq (by omega), bcells_append]; exact ho2, hs2⟩)

theorem C151 {s : ByteArray} (hl : s.size < 2 ^ 30) (hs : Sat G M I w) : Calls Tryz.prog 151 #[.string s] w (Ret fun r w' => ∃ J L, Le I J ∧ OwnS 5 1 r (bcells (rowB (sbytes s))) L ∧ Sat G (L ++ M) J w') := by
  refine enter1 Tryz.func151 rfl Tryz.ntmps151 rfl ?_
  repeat first | apply W.seq | apply W.region
  refine RL.p rfl rfl rfl (PV_assign rfl rfl) ?_
  refine RL.done (nxt ?_)
  repeat first | apply W.seq | apply W.region
  refine RL.p rfl rfl rfl (PV_move rfl rfl) ?_
  refine RL.e rfl rfl rfl (EF_bytes rfl Tryz.underlying9 Tryz.underlying60 Tryz.underlying5 rfl hs) ?_
  rintro r1 w1 ⟨J1, hj1, hb1, hs1⟩
  refine RL.e rfl rfl rfl (K1 rfl fn174 rfl (C174 (by rw [length_sbytes]; exact hl) hb1.toM hs1)) ?_
  rintro r2 w2 ⟨L2, ho2, hs2⟩
  refine RL.p rfl rfl rfl (PV_assign rfl rfl) ?_
  refine RL.done (nxt ?_)
  repeat first | apply W.seq | apply W.region
  exact W.ret (ret_tmp rfl rfl ⟨_, rfl, J1, L2, hj1, ho2, hs2⟩)

end Go.Proofs.YtecbpmgfikgoaaaGreatDoor
