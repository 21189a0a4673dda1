/- Walks of functions 3: what each call gives back, and that it writes nothing of anybody else's. Conditions: as each theorem says. -/
import Derived.Test.YtecbpmgfikgoaaaGreatDoorV3
set_option linter.unusedVariables false
set_option linter.unusedSimpArgs false
set_option maxRecDepth 8000
set_option maxHeartbeats 4000000
namespace Go.Proofs.YtecbpmgfikgoaaaGreatDoor
open Go Go.RowKit
variable {G w : World} {M : List Chunk} {I : Imm}

theorem built24b (a : Act) : Tryz.prog.built 24 ((#[(0, Operand.const (.int .u8 2))] : Array (Nat × Operand)).map fun (i, x) => (i, a.eval x)).toList = some (bcells (2 :: List.replicate 31 0)).toArray := by kernel_rfl
theorem built24c (a : Act) : Tryz.prog.built 24 ((#[(0, Operand.const (.int .u8 3))] : Array (Nat × Operand)).map fun (i, x) => (i, a.eval x)).toList = some (bcells (3 :: List.replicate 31 0)).toArray := by kernel_rfl
section
variable {P : Program} {n : Nat} {E : List (Nat × Value)} {S : World → Prop} {o : Oper}
theorem PV_neb {T T' : TypeId} {x y : Operand} {p q : Bool} (ho : o.op = .binOp .neq T x y T') (hT : P.underlying T = some .bool) (hx : ev E x = some (.bool p)) (hy : ev E y = some (.bool q)) : PV P n o E S (.bool (p != q)) := .of fun a ha w => by
  have h : (Op.equal T (.bool p) (.bool q)).run P w = .ok (p == q) w := run_equalIn_bool' w 9999 T p q hT
  have h2 : (binOp .neq T (.bool p) (.bool q)).run P w = .ok (.bool (p != q)) w := by
    unfold binOp
    simp [h, bne]
  simp [execOp, ho, ha.ev hx, ha.ev hy, eqGuard, h2]
end
theorem C3 {v : Value} {L : List Tgt} (hw : ∀ t, t ∈ L → wideT t) (hv : SlM G M I 37 v L.length (lcells L)) (hs : Sat G M I w) : Calls Tryz.prog 3 #[v] w (Ret fun r w' => r = .bool true ∧ Sat G M I w') := by
  obtain ⟨A, c, rfl, hc⟩ := hv.shape
  refine enter1 Tryz.func3 rfl Tryz.ntmps3 rfl ?_
  repeat (first | refine W.seq ?_ | refine W.region ?_)
  refine RL.p rfl rfl rfl (PV_assign rfl rfl) ?_
  refine RL.done (nxt ?_)
  repeat (first | refine W.seq ?_ | refine W.region ?_)
  refine RL.p rfl rfl rfl (PV_move rfl rfl) ?_
  refine RL.p rfl rfl rfl (PV_len rfl Tryz.underlying22 rfl) ?_
  refine RL.p rfl rfl rfl (PV_gtr rfl rfl rfl) ?_
  refine RL.done (nxt ?_)
  repeat (first | refine W.seq ?_ | refine W.region ?_)
  refine W.cond rfl (fun h1 => ?_) (fun h1 => ?_)
  ·
    repeat (first | refine W.seq ?_ | refine W.region ?_)
    refine RL.p rfl rfl rfl (PV_assign rfl rfl) ?_
    refine RL.done (nxt ?_)
    repeat (first | refine W.seq ?_ | refine W.region ?_)
    exact W.ret (ret_tmp rfl rfl ⟨_, rfl, rfl, hs⟩)
  refine W.skip (nxt ?_)
  repeat (first | refine W.seq ?_ | refine W.region ?_)
  refine RL.p rfl rfl rfl (PV_assign rfl rfl) ?_
  refine RL.done (nxt ?_)
  repeat (first | refine W.seq ?_ | refine W.region ?_)
  refine W.block ?_
  repeat (first | refine W.seq ?_ | refine W.region ?_)
  refine W.loop (F := fun i : Nat => [(3, .int .i64 (i : Int)), (0, .slice A L.length c)]) (J := fun i w => i ≤ L.length ∧ (∀ j x, j < i → L[j]? = some x → smallT x) ∧ Sat G M I w) (m := fun i => L.length - i) 0 (by repeat first | exact Sub.nil | refine Sub.cons rfl ?_) ⟨by omega, fun j x h => absurd h (by omega), hs⟩ ?_
  rintro i w1 ⟨hi, hsm, hs1⟩
  repeat (first | refine W.seq ?_ | refine W.region ?_)
  refine RL.p rfl rfl rfl (PV_move rfl rfl) ?_
  refine RL.p rfl rfl rfl (PV_move rfl rfl) ?_
  refine RL.p rfl rfl rfl (PV_len rfl Tryz.underlying22 rfl) ?_
  refine RL.p rfl rfl rfl (PV_lss rfl rfl rfl) ?_
  refine RL.done (nxt ?_)
  repeat (first | refine W.seq ?_ | refine W.region ?_)
  refine W.cond rfl (fun h2 => ?_) (fun h2 => ?_)
  ·
    have hin : i < L.length := by have := of_decide_eq_true h2; omega
    have h40 : L.length ≤ 40 := by have := of_decide_eq_false h1; omega
    obtain ⟨bb, off, c', he, _, hmem⟩ := hv.elem (by omega)
    obtain ⟨rfl, rfl⟩ : A = some ⟨bb, off, none⟩ ∧ c = c' := by simpa using he
    obtain ⟨t, hti⟩ : ∃ x, L[i]? = some x := ⟨_, List.getElem?_eq_getElem hin⟩
    obtain ⟨w1', w2', w3'⟩ := hw t (List.mem_of_getElem? hti)
    have hrb : reachBytes ≤ 2 ^ 47 := by decide
    have htm : Mem G M I bb (off + i * 37) (tcells t) := hmem.sub (part_lcells hti) (by rw [length_lcells]; omega)
    refine W.skip (nxt ?_)
    repeat (first | refine W.seq ?_ | refine W.region ?_)
    refine W.block ?_
    repeat (first | refine W.seq ?_ | refine W.region ?_)
    refine W.drawsH hs1 [(0, true), (1, true), (2, true), (3, true), (4, true), (5, true), (6, true), (7, true), (8, true), (9, true), (10, true), (11, true), (12, true), (13, true), (14, false), (15, false), (16, false), (17, false), (18, false), (19, false), (20, false)] mixed (by kernel_rfl) (by kernel_rfl) ?_
    have hs2 := hs1.drew
    refine TW.p rfl rfl rfl rfl (PV_move rfl rfl) hs2 ?_
    refine TW.p rfl rfl rfl rfl (PV_move rfl rfl) hs2 ?_
    refine TW.p rfl rfl rfl rfl (PV_indexAddr (i := i) rfl Tryz.underlying22 sz26 rfl rfl rfl (by omega)) hs2 ?_
    refine TW.p rfl rfl rfl rfl (by first | exact PV_fieldAddr0 rfl rfl fa26_0 | exact PV_fieldAddr rfl rfl fa26_0) hs2 ?_
    refine TW.s rfl rfl rfl rfl (PV_loadMem1 (j := 0) rfl ag9 rfl (fun _ h => h) htm tc_0) hs2 ?_
    refine TW.p rfl rfl rfl rfl (PV_lens rfl Tryz.underlying9 rfl) hs2 ?_
    refine TW.p rfl rfl rfl rfl (PV_move rfl rfl) hs2 ?_
    refine TW.p rfl rfl rfl rfl (PV_move rfl rfl) hs2 ?_
    refine TW.p rfl rfl rfl rfl (PV_indexAddr (i := i) rfl Tryz.underlying22 sz26 rfl rfl rfl (by omega)) hs2 ?_
    refine TW.p rfl rfl rfl rfl (by first | exact PV_fieldAddr0 rfl rfl fa26_3 | exact PV_fieldAddr rfl rfl fa26_3) hs2 ?_
    refine TW.s rfl rfl rfl rfl (PV_loadMem1 (j := 34) rfl ag9 rfl (fun _ h => h) htm tc_34) hs2 ?_
    refine TW.p rfl rfl rfl rfl (PV_lens rfl Tryz.underlying9 rfl) hs2 ?_
    refine TW.p rfl rfl rfl rfl (PV_add rfl rfl rfl (by omega)) hs2 ?_
    refine TW.p rfl rfl rfl rfl (PV_move rfl rfl) hs2 ?_
    refine TW.q rfl rfl rfl rfl (T := fun _ => True) (PV_move rfl rfl) trivial (fun _ => hs2) ?_
    refine TW.q rfl rfl rfl rfl (T := fun _ => True) (PV_indexAddr (i := i) rfl Tryz.underlying22 sz26 rfl rfl rfl (by omega)) trivial (fun _ => hs2) ?_
    refine TW.q rfl rfl rfl rfl (T := fun _ => True) (by first | exact PV_fieldAddr0 rfl rfl fa26_5 | exact PV_fieldAddr rfl rfl fa26_5) trivial (fun _ => hs2) ?_
    refine TW.q rfl rfl rfl rfl (PV_loadMem1 (j := 36) rfl ag9 rfl (fun _ h => h) htm tc_36) hs2 (fun _ => hs2) ?_
    refine TW.q rfl rfl rfl rfl (T := fun _ => True) (PV_lens rfl Tryz.underlying9 rfl) trivial (fun _ => hs2) ?_
    refine TW.q rfl rfl rfl rfl (T := fun _ => True) (PV_add rfl rfl rfl (by omega)) trivial (fun _ => hs2) ?_
    refine TW.q rfl rfl rfl rfl (T := fun _ => True) (PV_gtr rfl rfl rfl) trivial (fun _ => hs2) ?_
    refine TW.done (nxt ?_)
    repeat (first | refine W.seq ?_ | refine W.region ?_)
    refine W.cond rfl (fun h3 => ?_) (fun h3 => ?_)
    ·
      repeat (first | refine W.seq ?_ | refine W.region ?_)
      refine RL.p rfl rfl rfl (PV_assign rfl rfl) ?_
      refine RL.done (nxt ?_)
      repeat (first | refine W.seq ?_ | refine W.region ?_)
      exact W.ret (ret_tmp rfl rfl ⟨_, rfl, rfl, hs2⟩)
    refine W.skip (nxt ?_)
    repeat (first | refine W.seq ?_ | refine W.region ?_)
    refine RL.p rfl rfl rfl (PV_move rfl rfl) ?_
    refine RL.p rfl rfl rfl (PV_add rfl rfl rfl (by omega)) ?_
    refine RL.p rfl rfl rfl (PV_assign rfl rfl) ?_
    refine RL.done (round_end (i + 1) ?_ ?_ ?_)
    · repeat first | exact Sub.nil | refine Sub.cons rfl ?_
    · exact ⟨by omega, fun j x hj hx => (by
      by_cases hji : j = i
      · subst hji
        rw [hti] at hx
        cases hx
        have := of_decide_eq_false h3
        exact ⟨by omega, by omega, by omega⟩
      · exact hsm j x (by omega) hx), hs2⟩
    · first | omega | (dsimp only; omega)
  repeat (first | refine W.seq ?_ | refine W.region ?_)
  have hsmall : ∀ j x, L[j]? = some x → smallT x := fun j x hx => hsm j x (by have := (List.getElem?_eq_some_iff.1 hx).1; have := of_decide_eq_false h2; omega) hx
  refine  W.exit (nxt ?_)
  repeat (first | refine W.seq ?_ | refine W.region ?_)
  refine RL.p rfl rfl rfl (PV_build (cs := bcells (2 :: List.replicate 31 0)) rfl (fun a ha => built24b a)) ?_
  refine RL.e rfl rfl rfl (K1 rfl fn7 rfl (C7 (s := 2 :: List.replicate 31 0) rfl hs1)) ?_
  rintro r2 w2 ⟨J2, rb, k0, k1, lv0, lv1, ks, hj2, rfl, hv0, hv1, hks, hs2⟩
  refine RL.p rfl rfl rfl (PV_assign rfl rfl) ?_
  refine RL.done (nxt ?_)
  repeat (first | refine W.seq ?_ | refine W.region ?_)
  refine RL.p rfl rfl rfl (PV_move rfl rfl) ?_
  refine RL.p rfl rfl rfl (PV_eqnil rfl Tryz.underlying27 rfl rfl) ?_
  refine RL.done (nxt ?_)
  repeat (first | refine W.seq ?_ | refine W.region ?_)
  refine W.cond rfl (fun h4 => ?_) (fun h4 => ?_)
  · cases h4
  refine W.skip (nxt ?_)
  repeat (first | refine W.seq ?_ | refine W.region ?_)
  refine RL.p rfl rfl rfl (PV_assign rfl rfl) ?_
  refine RL.done (nxt ?_)
  repeat (first | refine W.seq ?_ | refine W.region ?_)
  refine W.block ?_
  repeat (first | refine W.seq ?_ | refine W.region ?_)
  refine W.loop (F := fun z : Nat × List Tgt => [(5, .int .i64 (z.1 : Int)), (4, ptr rb 0), (0, .slice A L.length c)]) (J := fun z w => z.1 ≤ L.length ∧ sortT z.2 ∧ z.2.length ≤ 16 ∧ ∃ J rc l Ll, Le I J ∧ rc.length = 64 ∧ rc[55]? = some l ∧ OwnS 26 37 l (lcells z.2) Ll ∧ Sat G (Ll ++ (rb, rc, 78) :: ([(k1, kcells (seedH (2 :: List.replicate 31 0) 1) lv1 0, 112), (k0, kcells (seedH (2 :: List.replicate 31 0) 0) lv0 0, 112)] ++ M)) J w) (m := fun z => L.length - z.1) (0, []) (by repeat first | exact Sub.nil | refine Sub.cons rfl ?_) ⟨by omega, sortT_nil, by simp, J2, _, _, [], hj2, ap_len rfl rfl, ap_get (i := 23) rfl rfl, OwnS.nil, hs2.unmid (L := [_, _])⟩ ?_
  rintro ⟨i, K⟩ w3 ⟨hi, hsort, hK, J, rc, l, Ll, hj, hrl, hr55, hol, hs3⟩
  repeat (first | refine W.seq ?_ | refine W.region ?_)
  refine RL.p rfl rfl rfl (PV_move rfl rfl) ?_
  refine RL.p rfl rfl rfl (PV_move rfl rfl) ?_
  refine RL.p rfl rfl rfl (PV_len rfl Tryz.underlying22 rfl) ?_
  refine RL.p rfl rfl rfl (PV_lss rfl rfl rfl) ?_
  refine RL.done (nxt ?_)
  repeat (first | refine W.seq ?_ | refine W.region ?_)
  refine W.cond rfl (fun h5 => ?_) (fun h5 => ?_)
  ·
    dsimp only at hi hsort hK hol
    have hin : i < L.length := by have := of_decide_eq_true h5; omega
    have h40 : L.length ≤ 40 := by have := of_decide_eq_false h1; omega
    obtain ⟨bb, off, c', he, _, hmem⟩ := hv.elem (by omega)
    obtain ⟨rfl, rfl⟩ : A = some ⟨bb, off, none⟩ ∧ c = c' := by simpa using he
    obtain ⟨t, hti⟩ : ∃ x, L[i]? = some x := ⟨_, List.getElem?_eq_getElem hin⟩
    have hl37 : i * 37 + 37 ≤ (lcells L).length := by rw [length_lcells]; omega
    refine W.skip (nxt ?_)
    repeat (first | refine W.seq ?_ | refine W.region ?_)
    refine W.block ?_
    repeat (first | refine W.seq ?_ | refine W.region ?_)
    refine RL.p rfl rfl rfl (PV_move rfl rfl) ?_
    refine RL.p rfl rfl rfl (PV_move rfl rfl) ?_
    refine RL.p rfl rfl rfl (PV_move rfl rfl) ?_
    refine RL.p rfl rfl rfl (PV_indexAddr (i := i) rfl Tryz.underlying22 sz26 rfl rfl rfl (by omega)) ?_
    refine RL.s rfl rfl rfl (PV_loadMemA (j := i * 37) rfl ag26 sz26 rfl (fun _ h => (h.drop.tail.drop).le hj) hmem hl37 (part_lcells hti)) hs3 ?_
    refine RL.e rfl rfl rfl (K2 rfl fn8 rfl rfl (C8 hrl hr55 (hsmall _ _ hti).ok (by omega) hol hs3)) ?_
    rintro r4 w4 ⟨e, K', l', Ll', rfl, hpub, hol', hs4⟩
    obtain ⟨hsort', hK', hin'⟩ := hpub.good hsort hK
    refine RL.p rfl rfl rfl (PV_assign rfl rfl) ?_
    refine RL.done (nxt ?_)
    repeat (first | refine W.seq ?_ | refine W.region ?_)
    refine RL.p rfl rfl rfl (PV_move rfl rfl) ?_
    refine RL.e rfl rfl rfl (K1 rfl fn9 rfl (C9 (m := K'.length) (cs := lcells K') (mapp m0) (lv := l') (by rw [List.getElem?_set, if_pos rfl, if_pos (by rw [hrl]; decide)]) (hol'.toM (length_lcells K') (by decide)) (one1_lcells _) (by omega) hs4)) ?_
    rintro r5 w5 ⟨J2, hj2, htv, hs5⟩
    obtain ⟨A2, c2, rfl, hc2⟩ := SlI.shape htv
    refine RL.p rfl rfl rfl (PV_assign rfl rfl) ?_
    refine RL.done (nxt ?_)
    repeat (first | refine W.seq ?_ | refine W.region ?_)
    refine RL.p rfl rfl rfl (PV_assign rfl rfl) ?_
    refine RL.done (nxt ?_)
    repeat (first | refine W.seq ?_ | refine W.region ?_)
    refine RL.p rfl rfl rfl (PV_assign rfl rfl) ?_
    refine RL.done (nxt ?_)
    repeat (first | refine W.seq ?_ | refine W.region ?_)
    refine W.block ?_
    repeat (first | refine W.seq ?_ | refine W.region ?_)
    refine W.loop (F := fun z : Nat × Bool => [(9, .int .i64 (z.1 : Int)), (8, .bool z.2), (7, .slice A2 K'.length c2), (6, .int .i64 e), (5, .int .i64 (i : Int)), (4, ptr rb 0), (0, .slice (some ⟨bb, off, none⟩) L.length c)]) (J := fun z w => z.1 ≤ K'.length ∧ (∀ j : Nat, j < z.1 → K'[j]? = some t → z.2 = true) ∧ Sat G (Ll' ++ (rb, rc.set 55 l', 78) :: ([(k1, kcells (seedH (2 :: List.replicate 31 0) 1) lv1 0, 112), (k0, kcells (seedH (2 :: List.replicate 31 0) 0) lv0 0, 112)] ++ M)) J2 w) (m := fun z => K'.length - z.1) (0, false) (by repeat first | exact Sub.nil | refine Sub.cons rfl ?_) ⟨by omega, fun j h => absurd h (by omega), hs5⟩ ?_
    rintro ⟨k, b⟩ w6 ⟨hk, hthere, hs6⟩
    repeat (first | refine W.seq ?_ | refine W.region ?_)
    refine RL.p rfl rfl rfl (PV_move rfl rfl) ?_
    refine RL.p rfl rfl rfl (PV_move rfl rfl) ?_
    refine RL.p rfl rfl rfl (PV_len rfl Tryz.underlying22 rfl) ?_
    refine RL.p rfl rfl rfl (PV_lss rfl rfl rfl) ?_
    refine RL.done (nxt ?_)
    repeat (first | refine W.seq ?_ | refine W.region ?_)
    refine W.cond rfl (fun h6 => ?_) (fun h6 => ?_)
    ·
      dsimp only at hk hthere
      have hkn : k < K'.length := by have := of_decide_eq_true h6; omega
      obtain ⟨tb, tof, c3, he, _, hmem2⟩ := htv.mem (by omega)
      obtain ⟨rfl, rfl⟩ : A2 = some ⟨tb, tof, none⟩ ∧ c2 = c3 := by simpa using he
      obtain ⟨x, hx⟩ : ∃ x, K'[k]? = some x := ⟨_, List.getElem?_eq_getElem hkn⟩
      obtain ⟨y, hy⟩ : ∃ x, K'[k - 1]? = some x := ⟨_, List.getElem?_eq_getElem (by omega)⟩
      have hlk : k * 37 + 37 ≤ (lcells K').length := by rw [length_lcells]; omega
      have hly : (k - 1) * 37 + 37 ≤ (lcells K').length := by rw [length_lcells]; omega
      have hbef : 0 < k → befB y x = true := fun h => hsort' (k - 1) y x hy (by rw [show k - 1 + 1 = k by omega]; exact hx)
      refine W.skip (nxt ?_)
      repeat (first | refine W.seq ?_ | refine W.region ?_)
      refine W.block ?_
      repeat (first | refine W.seq ?_ | refine W.region ?_)
      refine W.cut (fun b' : Bool => [(8, .bool b'), (9, .int .i64 (k : Int)), (7, .slice (some ⟨tb, tof, none⟩) K'.length c2), (6, .int .i64 e), (5, .int .i64 (i : Int)), (4, ptr rb 0), (0, .slice (some ⟨bb, off, none⟩) L.length c)]) (fun b' w => (b = true → b' = true) ∧ (K'[k]? = some t → b' = true) ∧ Sat G (Ll' ++ (rb, rc.set 55 l', 78) :: ([(k1, kcells (seedH (2 :: List.replicate 31 0) 1) lv1 0, 112), (k0, kcells (seedH (2 :: List.replicate 31 0) 0) lv0 0, 112)] ++ M)) J2 w) ?_ ?_
      ·
        refine W.drawsH hs6 [(0, false), (1, false), (2, true), (3, true), (4, true), (5, true), (6, true), (7, false), (8, false), (9, false), (10, false), (11, false), (12, false)] mixed (by kernel_rfl) (by kernel_rfl) ?_
        have hs7 := hs6.drew
        refine TW.q rfl rfl rfl rfl (T := fun _ => True) (PV_move rfl rfl) trivial (fun _ => hs7) ?_
        refine TW.q rfl rfl rfl rfl (T := fun _ => True) (PV_move rfl rfl) trivial (fun _ => hs7) ?_
        refine TW.split 65 rfl (fun g1 => ?_) (fun g1 => ?_)
        ·
          refine TW.gk rfl rfl rfl rfl rfl g1 rfl rfl rfl hs7 ?_
          refine TW.gk rfl rfl rfl rfl rfl g1 rfl rfl rfl hs7 ?_
          refine TW.gk rfl rfl rfl rfl rfl g1 rfl rfl rfl hs7 ?_
          refine TW.gk rfl rfl rfl rfl rfl g1 rfl rfl rfl hs7 ?_
          refine TW.gk rfl rfl rfl rfl rfl g1 rfl rfl rfl hs7 ?_
          refine TW.gkf rfl rfl rfl rfl rfl g1 rfl rfl rfl hs7 ?_
          refine TW.gkf rfl rfl rfl rfl rfl g1 rfl rfl rfl hs7 ?_
          refine TW.gkf rfl rfl rfl rfl rfl g1 rfl rfl rfl hs7 ?_
          refine TW.gkf rfl rfl rfl rfl rfl g1 rfl rfl rfl hs7 ?_
          refine TW.q rfl rfl rfl rfl (T := fun _ => True) (PV_pickT rfl rfl g1 rfl) trivial (fun _ => hs7) ?_
          refine TW.qn rfl rfl rfl rfl (T := fun _ => True) (PV_assign rfl rfl) trivial (by kernel_rfl) ?_
          exact TW.done (cut_end (F := (fun b' : Bool => [(8, .bool b'), (9, .int .i64 (k : Int)), (7, .slice (some ⟨tb, tof, none⟩) K'.length c2), (6, .int .i64 e), (5, .int .i64 (i : Int)), (4, ptr rb 0), (0, .slice (some ⟨bb, off, none⟩) L.length c)])) (J := (fun b' w => (b = true → b' = true) ∧ (K'[k]? = some t → b' = true) ∧ Sat G (Ll' ++ (rb, rc.set 55 l', 78) :: ([(k1, kcells (seedH (2 :: List.replicate 31 0) 1) lv1 0, 112), (k0, kcells (seedH (2 :: List.replicate 31 0) 0) lv0 0, 112)] ++ M)) J2 w)) _ (by repeat first | exact Sub.nil | refine Sub.cons rfl ?_) (by exact (by first | exact ⟨fun _ => rfl, fun _ => rfl, hs7⟩ | exact ⟨fun h => (by rw [h] at g1; cases g1), fun h => (by rw [hx] at h; cases h; exact eqT_self _), hs7⟩)))
        ·
          refine TW.gp rfl rfl rfl rfl rfl g1 rfl rfl rfl (PV_move rfl rfl) hs7 ?_
          refine TW.gp rfl rfl rfl rfl rfl g1 rfl rfl rfl (PV_move rfl rfl) hs7 ?_
          refine TW.gp rfl rfl rfl rfl rfl g1 rfl rfl rfl (PV_indexAddr (i := k) rfl Tryz.underlying22 sz26 rfl rfl rfl (by omega)) hs7 ?_
          refine TW.gs rfl rfl rfl rfl rfl g1 rfl rfl rfl (PV_loadMemA (j := k * 37) rfl ag26 sz26 rfl (fun _ h => h) (hmem2 _ _) hlk (part_lcells hx)) hs7 ?_
          refine TW.gp rfl rfl rfl rfl rfl g1 rfl rfl rfl (PV_move rfl rfl) hs7 ?_
          refine TW.gq rfl rfl rfl rfl rfl g1 rfl rfl rfl (T := fun _ => True) (PV_move rfl rfl) trivial (fun _ => hs7) ?_
          refine TW.gq rfl rfl rfl rfl rfl g1 rfl rfl rfl (T := fun _ => True) (PV_indexAddr (i := i) rfl Tryz.underlying22 sz26 rfl rfl rfl (by omega)) trivial (fun _ => hs7) ?_
          refine TW.gq rfl rfl rfl rfl rfl g1 rfl rfl rfl (PV_loadMemA (j := i * 37) rfl ag26 sz26 rfl (fun _ h => (h.drop.tail.drop).le (hj.trans hj2)) hmem hl37 (part_lcells hti)) hs7 (fun _ => hs7) ?_
          refine TW.gq rfl rfl rfl rfl rfl g1 rfl rfl rfl (T := fun _ => True) (PV_eqT rfl rfl rfl) trivial (fun _ => hs7) ?_
          refine TW.q rfl rfl rfl rfl (T := fun _ => True) (PV_pickF rfl rfl g1 rfl) trivial (fun _ => hs7) ?_
          refine TW.qn rfl rfl rfl rfl (T := fun _ => True) (PV_assign rfl rfl) trivial (by kernel_rfl) ?_
          exact TW.done (cut_end (F := (fun b' : Bool => [(8, .bool b'), (9, .int .i64 (k : Int)), (7, .slice (some ⟨tb, tof, none⟩) K'.length c2), (6, .int .i64 e), (5, .int .i64 (i : Int)), (4, ptr rb 0), (0, .slice (some ⟨bb, off, none⟩) L.length c)])) (J := (fun b' w => (b = true → b' = true) ∧ (K'[k]? = some t → b' = true) ∧ Sat G (Ll' ++ (rb, rc.set 55 l', 78) :: ([(k1, kcells (seedH (2 :: List.replicate 31 0) 1) lv1 0, 112), (k0, kcells (seedH (2 :: List.replicate 31 0) 0) lv0 0, 112)] ++ M)) J2 w)) _ (by repeat first | exact Sub.nil | refine Sub.cons rfl ?_) (by exact (by first | exact ⟨fun _ => rfl, fun _ => rfl, hs7⟩ | exact ⟨fun h => (by rw [h] at g1; cases g1), fun h => (by rw [hx] at h; cases h; exact eqT_self _), hs7⟩)))
      rintro b' w106 ⟨hb1, hb2, hs106⟩
      refine nxt ?_
      repeat (first | refine W.seq ?_ | refine W.region ?_)
      refine W.cut (fun b2 : Bool => [(90, .bool b2), (8, .bool b'), (9, .int .i64 (k : Int)), (7, .slice (some ⟨tb, tof, none⟩) K'.length c2), (6, .int .i64 e), (5, .int .i64 (i : Int)), (4, ptr rb 0), (0, .slice (some ⟨bb, off, none⟩) L.length c)]) (fun b2 w => b2 = false ∧ Sat G (Ll' ++ (rb, rc.set 55 l', 78) :: ([(k1, kcells (seedH (2 :: List.replicate 31 0) 1) lv1 0, 112), (k0, kcells (seedH (2 :: List.replicate 31 0) 0) lv0 0, 112)] ++ M)) J2 w) ?_ ?_
      ·
        refine W.drawsH hs106 [(0, false), (1, false), (2, false), (3, true), (4, true), (5, true), (6, true), (7, true), (8, true), (9, false), (10, false), (11, false), (12, false), (13, false), (14, false)] mixed (by kernel_rfl) (by kernel_rfl) ?_
        have hs107 := hs106.drew
        refine TW.q rfl rfl rfl rfl (T := fun _ => True) (PV_move rfl rfl) trivial (fun _ => hs107) ?_
        refine TW.q rfl rfl rfl rfl (T := fun _ => True) (PV_gtr rfl rfl rfl) trivial (fun _ => hs107) ?_
        refine TW.q rfl rfl rfl rfl (T := fun _ => True) (PV_move rfl rfl) trivial (fun _ => hs107) ?_
        refine TW.split 78 rfl (fun g2 => ?_) (fun g2 => ?_)
        ·
          refine TW.gp rfl rfl rfl rfl rfl g2 rfl rfl rfl (PV_move rfl rfl) hs107 ?_
          refine TW.gp rfl rfl rfl rfl rfl g2 rfl rfl rfl (PV_move rfl rfl) hs107 ?_
          refine TW.gp rfl rfl rfl rfl rfl g2 rfl rfl rfl (PV_sub rfl rfl rfl (by omega)) hs107 ?_
          refine TW.gp rfl rfl rfl rfl rfl g2 rfl rfl rfl (PV_indexAddr (i := k - 1) rfl Tryz.underlying22 sz26 rfl rfl (by have := of_decide_eq_true g2; omega) (by omega)) hs107 ?_
          refine TW.gs rfl rfl rfl rfl rfl g2 rfl rfl rfl (PV_loadMemA (j := (k - 1) * 37) rfl ag26 sz26 rfl (fun _ h => h) (hmem2 _ _) hly (part_lcells hy)) hs107 ?_
          refine TW.gp rfl rfl rfl rfl rfl g2 rfl rfl rfl (PV_move rfl rfl) hs107 ?_
          refine TW.gq rfl rfl rfl rfl rfl g2 rfl rfl rfl (T := fun _ => True) (PV_move rfl rfl) trivial (fun _ => hs107) ?_
          refine TW.gq rfl rfl rfl rfl rfl g2 rfl rfl rfl (T := fun _ => True) (PV_indexAddr (i := k) rfl Tryz.underlying22 sz26 rfl rfl rfl (by omega)) trivial (fun _ => hs107) ?_
          refine TW.gq rfl rfl rfl rfl rfl g2 rfl rfl rfl (PV_loadMemA (j := k * 37) rfl ag26 sz26 rfl (fun _ h => h) (hmem2 _ _) hlk (part_lcells hx)) hs107 (fun _ => hs107) ?_
          refine TW.ge rfl rfl rfl rfl rfl g2 rfl rfl rfl (K2 rfl fn10 rfl rfl (C10 hs107)) ?_
          rintro r108 w108 ⟨rfl, hs108⟩
          refine ⟨hs108, ?_⟩
          refine TW.gq rfl rfl rfl rfl rfl g2 rfl rfl rfl (T := fun _ => True) (PV_not rfl rfl) trivial (fun _ => hs108) ?_
          refine TW.q rfl rfl rfl rfl (T := fun _ => True) (PV_pickT rfl rfl g2 rfl) trivial (fun _ => hs108) ?_
          exact TW.done (cut_end (F := (fun b2 : Bool => [(90, .bool b2), (8, .bool b'), (9, .int .i64 (k : Int)), (7, .slice (some ⟨tb, tof, none⟩) K'.length c2), (6, .int .i64 e), (5, .int .i64 (i : Int)), (4, ptr rb 0), (0, .slice (some ⟨bb, off, none⟩) L.length c)])) (J := (fun b2 w => b2 = false ∧ Sat G (Ll' ++ (rb, rc.set 55 l', 78) :: ([(k1, kcells (seedH (2 :: List.replicate 31 0) 1) lv1 0, 112), (k0, kcells (seedH (2 :: List.replicate 31 0) 0) lv0 0, 112)] ++ M)) J2 w)) _ (by repeat first | exact Sub.nil | refine Sub.cons rfl ?_) (by exact (by first | exact ⟨rfl, hs108⟩ | exact ⟨by rw [hbef (by have := of_decide_eq_true g2; omega)]; rfl, hs108⟩)))
        ·
          refine TW.gk rfl rfl rfl rfl rfl g2 rfl rfl rfl hs107 ?_
          refine TW.gk rfl rfl rfl rfl rfl g2 rfl rfl rfl hs107 ?_
          refine TW.gk rfl rfl rfl rfl rfl g2 rfl rfl rfl hs107 ?_
          refine TW.gk rfl rfl rfl rfl rfl g2 rfl rfl rfl hs107 ?_
          refine TW.gk rfl rfl rfl rfl rfl g2 rfl rfl rfl hs107 ?_
          refine TW.gk rfl rfl rfl rfl rfl g2 rfl rfl rfl hs107 ?_
          refine TW.gkf rfl rfl rfl rfl rfl g2 rfl rfl rfl hs107 ?_
          refine TW.gkf rfl rfl rfl rfl rfl g2 rfl rfl rfl hs107 ?_
          refine TW.gkf rfl rfl rfl rfl rfl g2 rfl rfl rfl hs107 ?_
          refine TW.gkf rfl rfl rfl rfl rfl g2 rfl rfl rfl hs107 ?_
          refine TW.gkf rfl rfl rfl rfl rfl g2 rfl rfl rfl hs107 ?_
          refine TW.q rfl rfl rfl rfl (T := fun _ => True) (PV_pickF rfl rfl g2 rfl) trivial (fun _ => hs107) ?_
          exact TW.done (cut_end (F := (fun b2 : Bool => [(90, .bool b2), (8, .bool b'), (9, .int .i64 (k : Int)), (7, .slice (some ⟨tb, tof, none⟩) K'.length c2), (6, .int .i64 e), (5, .int .i64 (i : Int)), (4, ptr rb 0), (0, .slice (some ⟨bb, off, none⟩) L.length c)])) (J := (fun b2 w => b2 = false ∧ Sat G (Ll' ++ (rb, rc.set 55 l', 78) :: ([(k1, kcells (seedH (2 :: List.replicate 31 0) 1) lv1 0, 112), (k0, kcells (seedH (2 :: List.replicate 31 0) 0) lv0 0, 112)] ++ M)) J2 w)) _ (by repeat first | exact Sub.nil | refine Sub.cons rfl ?_) (by exact (by first | exact ⟨rfl, hs107⟩ | exact ⟨by rw [hbef (by have := of_decide_eq_true g2; omega)]; rfl, hs107⟩)))
      rintro b2 w206 ⟨rfl, hs206⟩
      refine nxt ?_
      repeat (first | refine W.seq ?_ | refine W.region ?_)
      refine W.cond rfl (fun h7 => ?_) (fun h7 => ?_)
      · cases h7
      refine W.skip (nxt ?_)
      repeat (first | refine W.seq ?_ | refine W.region ?_)
      refine RL.p rfl rfl rfl (PV_move rfl rfl) ?_
      refine RL.p rfl rfl rfl (PV_add rfl rfl rfl (by omega)) ?_
      refine RL.p rfl rfl rfl (PV_assign rfl rfl) ?_
      refine RL.done (round_end (k + 1, b') ?_ ?_ ?_)
      · repeat first | exact Sub.nil | refine Sub.cons rfl ?_
      · exact ⟨by dsimp only; omega, fun j hjk hjt => (by
              by_cases hjj : j = k
              · exact hb2 (hjj ▸ hjt)
              · exact hb1 (hthere j (by dsimp only at hjk ⊢; omega) hjt)), hs206⟩
      · first | omega | (dsimp only; omega)
    repeat (first | refine W.seq ?_ | refine W.region ?_)
    dsimp only at hk hthere
    have hbt : e = 0 → b = true := fun h => by
      obtain ⟨j, hj'⟩ := hin' h
      exact hthere j (by have := (List.getElem?_eq_some_iff.1 hj').1; have := of_decide_eq_false h6; dsimp only at this; omega) hj'
    refine  W.exit (nxt ?_)
    repeat refine W.seq ?_
    refine W.cut (fun q : Bool => [(103, .bool q), (5, .int .i64 (i : Int)), (4, ptr rb 0), (0, .slice (some ⟨bb, off, none⟩) L.length c)]) (fun q w => q = false ∧ Sat G (Ll' ++ (rb, rc.set 55 l', 78) :: ([(k1, kcells (seedH (2 :: List.replicate 31 0) 1) lv1 0, 112), (k0, kcells (seedH (2 :: List.replicate 31 0) 0) lv0 0, 112)] ++ M)) J2 w) ?_ ?_
    ·
      refine W.region ?_
      refine RL.p rfl rfl rfl (PV_move rfl rfl) ?_
      refine RL.p rfl rfl rfl (PV_move rfl rfl) ?_
      refine RL.p rfl rfl rfl (PV_eqi rfl rfl rfl) ?_
      refine RL.p rfl rfl rfl (PV_neb rfl Tryz.underlying4 rfl rfl) ?_
      refine RL.p rfl rfl rfl (PV_move rfl rfl) ?_
      refine RL.split 95 rfl (fun g3 => ?_) (fun g3 => ?_)
      ·
        refine RL.gp rfl rfl rfl rfl g3 rfl rfl rfl (PV_move rfl rfl) ?_
        refine RL.gp rfl rfl rfl rfl g3 rfl rfl rfl (PV_eqi rfl rfl rfl) ?_
        refine RL.p rfl rfl rfl (PV_pickT rfl rfl g3 rfl) ?_
        refine RL.p rfl rfl rfl (PV_move rfl rfl) ?_
        refine RL.split 99 rfl (fun g4 => by have h0 := of_decide_eq_true g4; rw [hbt h0] at g3; simp [h0] at g3) (fun g4 => ?_)
        refine RL.gp rfl rfl rfl rfl g4 rfl rfl rfl (PV_move rfl rfl) ?_
        refine RL.gp rfl rfl rfl rfl g4 rfl rfl rfl (PV_len rfl Tryz.underlying22 rfl) ?_
        refine RL.gp rfl rfl rfl rfl g4 rfl rfl rfl (PV_gtr rfl rfl rfl) ?_
        refine RL.p rfl rfl rfl (PV_pickF rfl rfl g4 rfl) ?_
        exact RL.done (cut_end (F := (fun q : Bool => [(103, .bool q), (5, .int .i64 (i : Int)), (4, ptr rb 0), (0, .slice (some ⟨bb, off, none⟩) L.length c)])) (J := (fun q w => q = false ∧ Sat G (Ll' ++ (rb, rc.set 55 l', 78) :: ([(k1, kcells (seedH (2 :: List.replicate 31 0) 1) lv1 0, 112), (k0, kcells (seedH (2 :: List.replicate 31 0) 0) lv0 0, 112)] ++ M)) J2 w)) _ (by repeat first | exact Sub.nil | refine Sub.cons rfl ?_) (by exact (by exact ⟨decide_eq_false (by omega), hs6⟩)))
      ·
        refine RL.gk rfl rfl rfl rfl g3 rfl rfl rfl ?_
        refine RL.gk rfl rfl rfl rfl g3 rfl rfl rfl ?_
        refine RL.p rfl rfl rfl (PV_pickF rfl rfl g3 rfl) ?_
        refine RL.p rfl rfl rfl (PV_move rfl rfl) ?_
        refine RL.gp rfl rfl rfl rfl rfl rfl rfl rfl (PV_move rfl rfl) ?_
        refine RL.gp rfl rfl rfl rfl rfl rfl rfl rfl (PV_len rfl Tryz.underlying22 rfl) ?_
        refine RL.gp rfl rfl rfl rfl rfl rfl rfl rfl (PV_gtr rfl rfl rfl) ?_
        refine RL.p rfl rfl rfl (PV_pickF rfl rfl rfl rfl) ?_
        exact RL.done (cut_end (F := (fun q : Bool => [(103, .bool q), (5, .int .i64 (i : Int)), (4, ptr rb 0), (0, .slice (some ⟨bb, off, none⟩) L.length c)])) (J := (fun q w => q = false ∧ Sat G (Ll' ++ (rb, rc.set 55 l', 78) :: ([(k1, kcells (seedH (2 :: List.replicate 31 0) 1) lv1 0, 112), (k0, kcells (seedH (2 :: List.replicate 31 0) 0) lv0 0, 112)] ++ M)) J2 w)) _ (by repeat first | exact Sub.nil | refine Sub.cons rfl ?_) (by exact (by exact ⟨decide_eq_false (by omega), hs6⟩)))
    rintro q w106 ⟨rfl, hs106⟩
    refine nxt ?_
    repeat (first | refine W.seq ?_ | refine W.region ?_)
    refine W.cond rfl (fun h8 => ?_) (fun h8 => ?_)
    · cases h8
    refine W.skip (nxt ?_)
    repeat (first | refine W.seq ?_ | refine W.region ?_)
    refine RL.p rfl rfl rfl (PV_move rfl rfl) ?_
    refine RL.p rfl rfl rfl (PV_add rfl rfl rfl (by omega)) ?_
    refine RL.p rfl rfl rfl (PV_assign rfl rfl) ?_
    refine RL.done (round_end (i + 1, K') ?_ ?_ ?_)
    · repeat first | exact Sub.nil | refine Sub.cons rfl ?_
    · exact ⟨by dsimp only; omega, hsort', hK', J2, _, l', Ll', hj.trans hj2, by rw [List.length_set]; exact hrl, by rw [List.getElem?_set, if_pos rfl, if_pos (by rw [hrl]; decide)], hol', hs106⟩
    · first | omega | (dsimp only; omega)
  repeat (first | refine W.seq ?_ | refine W.region ?_)
  refine W.exit (nxt ?_)
  repeat (first | refine W.seq ?_ | refine W.region ?_)
  refine RL.e rfl rfl rfl (K0 rfl fn11 (C11 hs3)) ?_
  rintro r4 w4 ⟨rfl, hs4⟩
  refine RL.p rfl rfl rfl (PV_assign rfl rfl) ?_
  refine RL.done (nxt ?_)
  repeat (first | refine W.seq ?_ | refine W.region ?_)
  exact W.ret (ret_tmp rfl rfl ⟨_, rfl, rfl, (hs4.drop.tail.drop).le hj⟩)

end Go.Proofs.YtecbpmgfikgoaaaGreatDoor
