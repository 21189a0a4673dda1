/- Walks of functions 5: what each call gives back, and that it writes nothing of anybody else's. Conditions: as each theorem says. -/
import Derived.Test.YtecbpmgfikgoaaaGreatDoorV4
set_option linter.unusedVariables false
set_option linter.unusedSimpArgs false
set_option maxRecDepth 8000
set_option maxHeartbeats 4000000
namespace Go.Proofs.YtecbpmgfikgoaaaGreatDoor
open Go Go.RowKit
variable {G w : World} {M : List Chunk} {I : Imm}

def seed3 : List UInt8 := 3 :: List.replicate 31 0
section
variable {J : Imm} {rb : Nat} {s : List UInt8} {K B : List Tgt} {m y sg : Nat} {tp : Option TopT}
theorem M16c {now life : Nat} (hn : now + life ≤ 1073741824) (hsg : sg ≤ 2 ^ 20) (hK : K.length ≤ 2 ^ 10) (hB : B.length ≤ 2 ^ 20) (hok : ∀ t ∈ K, t.ok) (h : RepoM G M J rb s K B m y sg tp w) :
    Calls Tryz.prog 16 #[ptr rb 0, .int .i64 (now : Int), .int .i64 (life : Int)] w (Ret fun r w' => ∃ J' e B' y' sg' tp', Le J J' ∧ r = .int .i64 e ∧ ((e = 0 ∧ B' = B ++ K ∧ sg' = sg + 1) ∨ (e = 3 ∧ B' = B ∧ sg' = sg)) ∧ RepoM G M J' rb s K B' m y' sg' tp' w') := by
  by_cases hy : y ≤ 13
  · refine Calls.ret_mono (M16 hy hn hsg hK hB hok h) ?_
    rintro r w' ⟨J', hj, rfl, h'⟩
    exact ⟨J', 0, _, _, _, _, hj, rfl, .inl ⟨rfl, rfl, rfl⟩, h'⟩
  · refine Calls.ret_mono (M16u (by omega) hn h) ?_
    rintro r w' ⟨rfl, h'⟩
    exact ⟨J, 3, _, _, _, _, Le.refl J, rfl, .inr ⟨rfl, rfl, rfl⟩, h'⟩
theorem M15c (h : RepoM G M J rb s K B m y sg tp w) : Calls Tryz.prog 15 #[ptr rb 0] w (Ret fun r w' => ∃ J' m' y' v, Le J J' ∧ r = .int .i64 v ∧ m' ≤ m + 1 ∧ RepoM G M J' rb s K B m' y' sg tp w') := by
  by_cases hm : m < 16
  · refine Calls.ret_mono (M15 hm h) ?_
    rintro r w' ⟨J', hj, rfl, h'⟩
    exact ⟨J', m + 1, 0, 0, hj, rfl, Nat.le_refl _, h'⟩
  · refine Calls.ret_mono (M15u (by omega) h) ?_
    rintro r w' ⟨rfl, h'⟩
    exact ⟨J, m, y, 3, Le.refl J, rfl, Nat.le_succ m, h'⟩
end
/-- What holds between two acts: the Repo, and the ledger that is wanted. -/
def LedJ (G : World) (M : List Chunk) (I : Imm) (rb n : Nat) (x : Value) (w : World) : Prop := ∃ J K B m y sg tp Lw, Le I J ∧ K.length ≤ 16 ∧ (∀ t, t ∈ K → t.ok) ∧ sortT K ∧ B.length ≤ 16 * n ∧ sg ≤ n ∧ OwnS 26 37 x (lcells B) Lw ∧ RepoM G (Lw ++ M) J rb seed3 K B m y sg tp w

theorem C5 {v : Value} {L : List ActT} (hL : L.length ≤ 2 ^ 50) (hw : ∀ a, a ∈ L → wideT a.t) (hv : SlM G M I 40 v L.length (L.flatMap acells)) (hs : Sat G M I w) : Calls Tryz.prog 5 #[v] w (Ret fun r w' => r = .bool true ∧ Sat G M I w') := by
  obtain ⟨A, c, rfl, hc⟩ := hv.shape
  refine enter1 Tryz.func5 rfl Tryz.ntmps5 rfl ?_
  repeat (first | refine W.seq ?_ | refine W.region ?_)
  refine RL.p rfl rfl rfl (PV_assign rfl rfl) ?_
  refine RL.done (nxt ?_)
  repeat (first | refine W.seq ?_ | refine W.region ?_)
  refine RL.p rfl rfl rfl (PV_move rfl rfl) ?_
  refine RL.e rfl rfl rfl (K1 rfl fn12 rfl (C12 hL hw hv hs)) ?_
  rintro r1 w1 ⟨⟨q, rfl, hsm⟩, hs1⟩
  refine RL.done (nxt ?_)
  repeat (first | refine W.seq ?_ | refine W.region ?_)
  refine W.cond rfl (fun h1 => ?_) (fun h1 => ?_)
  ·
    repeat (first | refine W.seq ?_ | refine W.region ?_)
    refine RL.p rfl rfl rfl (PV_assign rfl rfl) ?_
    refine RL.done (nxt ?_)
    repeat (first | refine W.seq ?_ | refine W.region ?_)
    exact W.ret (ret_tmp rfl rfl ⟨_, rfl, rfl, hs1⟩)
  refine W.skip (nxt ?_)
  repeat (first | refine W.seq ?_ | refine W.region ?_)
  refine RL.p rfl rfl rfl (PV_build (cs := bcells seed3) rfl (fun a ha => built24c a)) ?_
  refine RL.e rfl rfl rfl (K1 rfl fn7 rfl (M7 (s := seed3) rfl hs1)) ?_
  rintro r2 w2 ⟨J2, rb, hj2, rfl, hs2⟩
  refine RL.p rfl rfl rfl (PV_assign rfl rfl) ?_
  refine RL.done (nxt ?_)
  repeat (first | refine W.seq ?_ | refine W.region ?_)
  refine RL.p rfl rfl rfl (PV_move rfl rfl) ?_
  refine RL.p rfl rfl rfl (PV_eqnil rfl Tryz.underlying27 rfl rfl) ?_
  refine RL.done (nxt ?_)
  repeat (first | refine W.seq ?_ | refine W.region ?_)
  refine W.cond rfl (fun h2 => ?_) (fun h2 => ?_)
  · cases h2
  refine W.skip (nxt ?_)
  repeat (first | refine W.seq ?_ | refine W.region ?_)
  refine RL.p rfl rfl rfl (PV_assign rfl rfl) ?_
  refine RL.done (nxt ?_)
  repeat (first | refine W.seq ?_ | refine W.region ?_)
  refine RL.p rfl rfl rfl (PV_assign rfl rfl) ?_
  refine RL.done (nxt ?_)
  repeat (first | refine W.seq ?_ | refine W.region ?_)
  refine W.block ?_
  repeat (first | refine W.seq ?_ | refine W.region ?_)
  refine W.loop (F := fun z : Nat × Value => [(5, .int .i64 (z.1 : Int)), (4, z.2), (3, ptr rb 0), (0, .slice A L.length c)]) (J := fun z w => z.1 ≤ L.length ∧ z.1 ≤ 24 ∧ LedJ G M I rb z.1 z.2 w) (m := fun z => 24 - z.1) (0, .slice none 0 0) (by repeat first | exact Sub.nil | refine Sub.cons rfl ?_) ⟨by omega, by omega, J2, [], [], 0, 0, 0, none, [], hj2, by decide, fun t h => (by cases h), sortT_nil, by decide, by decide, OwnS.nil, hs2⟩ ?_
  rintro ⟨i, wv⟩ w3 ⟨hiL, hi24, J, K, B, m, y, sg, tp, Lw, hj, hK, hok, hsort, hB, hsg, how, hs3⟩
  repeat refine W.seq ?_
  refine W.cut (fun b : Bool => [(19, .bool b), (5, .int .i64 (i : Int)), (4, wv), (3, ptr rb 0), (0, .slice A L.length c)]) (fun b w => (b = true → i < L.length ∧ i < 24) ∧ (b = false → L.length ≤ i ∨ 24 ≤ i) ∧ RepoM G (Lw ++ M) J rb seed3 K B m y sg tp w) ?_ ?_
  ·
    refine W.region ?_
    refine RL.p rfl rfl rfl (PV_move rfl rfl) ?_
    refine RL.p rfl rfl rfl (PV_move rfl rfl) ?_
    refine RL.p rfl rfl rfl (PV_len rfl Tryz.underlying35 rfl) ?_
    refine RL.p rfl rfl rfl (PV_lss rfl rfl rfl) ?_
    refine RL.p rfl rfl rfl (PV_move rfl rfl) ?_
    refine RL.split 16 rfl (fun g1 => ?_) (fun g1 => ?_)
    ·
      refine RL.gp rfl rfl rfl rfl g1 rfl rfl rfl (PV_move rfl rfl) ?_
      refine RL.gp rfl rfl rfl rfl g1 rfl rfl rfl (PV_lss rfl rfl rfl) ?_
      refine RL.p rfl rfl rfl (PV_pickT rfl rfl g1 rfl) ?_
      exact RL.done (cut_end (F := (fun b : Bool => [(19, .bool b), (5, .int .i64 (i : Int)), (4, wv), (3, ptr rb 0), (0, .slice A L.length c)])) (J := (fun b w => (b = true → i < L.length ∧ i < 24) ∧ (b = false → L.length ≤ i ∨ 24 ≤ i) ∧ RepoM G (Lw ++ M) J rb seed3 K B m y sg tp w)) _ (by repeat first | exact Sub.nil | refine Sub.cons rfl ?_) (by exact (by first | exact ⟨fun h => ⟨by have := of_decide_eq_true g1; omega, by have := of_decide_eq_true h; omega⟩, fun h => .inr (by have := of_decide_eq_false h; omega), hs3⟩ | exact ⟨fun h => (by cases h), fun _ => .inl (by have := of_decide_eq_false g1; omega), hs3⟩)))
    ·
      refine RL.gk rfl rfl rfl rfl g1 rfl rfl rfl ?_
      refine RL.gk rfl rfl rfl rfl g1 rfl rfl rfl ?_
      refine RL.p rfl rfl rfl (PV_pickF rfl rfl g1 rfl) ?_
      exact RL.done (cut_end (F := (fun b : Bool => [(19, .bool b), (5, .int .i64 (i : Int)), (4, wv), (3, ptr rb 0), (0, .slice A L.length c)])) (J := (fun b w => (b = true → i < L.length ∧ i < 24) ∧ (b = false → L.length ≤ i ∨ 24 ≤ i) ∧ RepoM G (Lw ++ M) J rb seed3 K B m y sg tp w)) _ (by repeat first | exact Sub.nil | refine Sub.cons rfl ?_) (by exact (by first | exact ⟨fun h => ⟨by have := of_decide_eq_true g1; omega, by have := of_decide_eq_true h; omega⟩, fun h => .inr (by have := of_decide_eq_false h; omega), hs3⟩ | exact ⟨fun h => (by cases h), fun _ => .inl (by have := of_decide_eq_false g1; omega), hs3⟩)))
  rintro q24 w103 ⟨hT, hF, hs103⟩
  refine nxt ?_
  repeat (first | refine W.seq ?_ | refine W.region ?_)
  refine W.cond rfl (fun h3 => ?_) (fun h3 => ?_)
  ·
    dsimp only at hiL hi24 hB hsg how
    obtain ⟨hin, hin24⟩ := hT h3
    obtain ⟨bb, off, c', he, _, hmem⟩ := hv.elem (by omega)
    obtain ⟨rfl, rfl⟩ : A = some ⟨bb, off, none⟩ ∧ c = c' := by simpa using he
    obtain ⟨a, hai⟩ : ∃ x, L[i]? = some x := ⟨_, List.getElem?_eq_getElem hin⟩
    have ham := act_mem hmem hai
    have htm := act_tgt hmem hai
    refine W.skip (nxt ?_)
    repeat (first | refine W.seq ?_ | refine W.region ?_)
    refine W.block ?_
    repeat (first | refine W.seq ?_ | refine W.region ?_)
    refine RL.p rfl rfl rfl (PV_move rfl rfl) ?_
    refine RL.p rfl rfl rfl (PV_move rfl rfl) ?_
    refine RL.p rfl rfl rfl (PV_indexAddr (i := i) rfl Tryz.underlying35 sz53 rfl rfl rfl (by omega)) ?_
    refine RL.p rfl rfl rfl (by first | exact PV_fieldAddr0 rfl rfl fa53_0 | exact PV_fieldAddr rfl rfl fa53_0) ?_
    refine RL.s rfl rfl rfl (PV_loadMem1 (j := 0) rfl ag3 rfl (fun _ h => (h.sat.drop).le hj) ham ac_0) hs103 ?_
    refine RL.done (nxt ?_)
    repeat (first | refine W.seq ?_ | refine W.region ?_)
    refine W.cut (fun x : Value => [(4, x), (5, .int .i64 (i : Int)), (3, ptr rb 0), (0, .slice (some ⟨bb, off, none⟩) L.length c)]) (fun x w => LedJ G M I rb (i + 1) x w) ?_ ?_
    ·
      repeat (first | refine W.seq ?_ | refine W.region ?_)
      refine W.block ?_
      repeat (first | refine W.seq ?_ | refine W.region ?_)
      refine RL.p rfl rfl rfl (PV_eqi rfl rfl rfl) ?_
      refine RL.p rfl rfl rfl (PV_assign rfl rfl) ?_
      refine RL.done (nxt ?_)
      repeat (first | refine W.seq ?_ | refine W.region ?_)
      refine W.cond rfl (fun h4 => ?_) (fun h4 => ?_)
      ·
        repeat (first | refine W.seq ?_ | refine W.region ?_)
        refine RL.p rfl rfl rfl (PV_move rfl rfl) ?_
        refine RL.p rfl rfl rfl (PV_move rfl rfl) ?_
        refine RL.p rfl rfl rfl (PV_move rfl rfl) ?_
        refine RL.p rfl rfl rfl (PV_indexAddr (i := i) rfl Tryz.underlying35 sz53 rfl rfl rfl (by omega)) ?_
        refine RL.p rfl rfl rfl (by first | exact PV_fieldAddr0 rfl rfl fa53_1 | exact PV_fieldAddr rfl rfl fa53_1) ?_
        refine RL.s rfl rfl rfl (PV_loadMemA (j := 1) rfl ag26 sz26 rfl (fun _ h => (h.sat.drop).le hj) ham (by rw [length_acells]; decide) ac_t) hs103 ?_
        refine RL.e rfl rfl rfl (K2 rfl fn8 rfl rfl (M8 (hsm h1 i a hin24 hai).ok (by omega) hs103)) ?_
        rintro r104 w104 ⟨e, Kq, rfl, hpub, hs104⟩
        exact RL.done (cut_end (F := (fun x : Value => [(4, x), (5, .int .i64 (i : Int)), (3, ptr rb 0), (0, .slice (some ⟨bb, off, none⟩) L.length c)])) (J := (fun x w => LedJ G M I rb (i + 1) x w)) _ (by repeat first | exact Sub.nil | refine Sub.cons rfl ?_) (by exact ⟨J, Kq, B, m, y, sg, tp, Lw, hj, (hpub.good hsort hK).2.1, fun t ht => (hpub.mem ht).elim (hok t) (fun h => h.1 ▸ (hsm h1 i a hin24 hai).ok), (hpub.good hsort hK).1, by omega, by omega, how, hs104⟩))
      ·
        repeat (first | refine W.seq ?_ | refine W.region ?_)
        refine RL.p rfl rfl rfl (PV_eqi rfl rfl rfl) ?_
        refine RL.p rfl rfl rfl (PV_assign rfl rfl) ?_
        refine RL.done (nxt ?_)
        repeat (first | refine W.seq ?_ | refine W.region ?_)
        refine W.cond rfl (fun h5 => ?_) (fun h5 => ?_)
        ·
          repeat (first | refine W.seq ?_ | refine W.region ?_)
          refine W.drawsH hs103.sat [(0, true), (1, true), (2, true), (3, true), (4, true), (5, true), (6, true), (7, true), (8, false), (9, false), (10, false), (11, false), (12, false), (13, false)] mixed (by kernel_rfl) (by kernel_rfl) ?_
          have hs104 := hs103.drew
          refine TW.p rfl rfl rfl rfl (PV_move rfl rfl) (hs104.sat) ?_
          refine TW.p rfl rfl rfl rfl (PV_move rfl rfl) (hs104.sat) ?_
          refine TW.p rfl rfl rfl rfl (PV_move rfl rfl) (hs104.sat) ?_
          refine TW.p rfl rfl rfl rfl (PV_indexAddr (i := i) rfl Tryz.underlying35 sz53 rfl rfl rfl (by omega)) (hs104.sat) ?_
          refine TW.p rfl rfl rfl rfl (by first | exact PV_fieldAddr0 rfl rfl fa53_1 | exact PV_fieldAddr rfl rfl fa53_1) (hs104.sat) ?_
          refine TW.p rfl rfl rfl rfl (by first | exact PV_fieldAddr0 rfl rfl fa26_0 | exact PV_fieldAddr rfl rfl fa26_0) (hs104.sat) ?_
          refine TW.s rfl rfl rfl rfl (PV_loadMem1 (j := 0) rfl ag9 rfl (fun _ h => (h.drop).le hj) htm tc_0) (hs104.sat) ?_
          refine TW.p rfl rfl rfl rfl (PV_move rfl rfl) (hs104.sat) ?_
          refine TW.q rfl rfl rfl rfl (T := fun _ => True) (PV_move rfl rfl) trivial (fun _ => (hs104.sat)) ?_
          refine TW.q rfl rfl rfl rfl (T := fun _ => True) (PV_indexAddr (i := i) rfl Tryz.underlying35 sz53 rfl rfl rfl (by omega)) trivial (fun _ => (hs104.sat)) ?_
          refine TW.q rfl rfl rfl rfl (T := fun _ => True) (by first | exact PV_fieldAddr0 rfl rfl fa53_1 | exact PV_fieldAddr rfl rfl fa53_1) trivial (fun _ => (hs104.sat)) ?_
          refine TW.q rfl rfl rfl rfl (T := fun _ => True) (by first | exact PV_fieldAddr0 rfl rfl fa26_5 | exact PV_fieldAddr rfl rfl fa26_5) trivial (fun _ => (hs104.sat)) ?_
          refine TW.q rfl rfl rfl rfl (PV_loadMem1 (j := 36) rfl ag9 rfl (fun _ h => (h.sat.drop).le hj) htm tc_36) hs104 (fun _ => (hs104.sat)) ?_
          refine TW.e rfl rfl rfl rfl (K3 rfl fn14 rfl rfl rfl (M14 (by omega) hs104)) ?_
          rintro r105 w105 ⟨e, Kq, rfl, hrem, hs105⟩
          refine ⟨(hs105.sat), ?_⟩
          exact TW.done (cut_end (F := (fun x : Value => [(4, x), (5, .int .i64 (i : Int)), (3, ptr rb 0), (0, .slice (some ⟨bb, off, none⟩) L.length c)])) (J := (fun x w => LedJ G M I rb (i + 1) x w)) _ (by repeat first | exact Sub.nil | refine Sub.cons rfl ?_) (by exact ⟨J, Kq, B, m, y, sg, tp, Lw, hj, (hrem.good hsort hK).2, fun t ht => hok t (hrem.mem ht), (hrem.good hsort hK).1, by omega, by omega, how, hs105⟩))
        ·
          repeat (first | refine W.seq ?_ | refine W.region ?_)
          refine RL.p rfl rfl rfl (PV_eqi rfl rfl rfl) ?_
          refine RL.p rfl rfl rfl (PV_assign rfl rfl) ?_
          refine RL.done (nxt ?_)
          repeat (first | refine W.seq ?_ | refine W.region ?_)
          refine W.cond rfl (fun h6 => ?_) (fun h6 => ?_)
          ·
            repeat (first | refine W.seq ?_ | refine W.region ?_)
            refine RL.p rfl rfl rfl (PV_move rfl rfl) ?_
            refine RL.e rfl rfl rfl (K3 rfl fn16 rfl rfl rfl (M16c (now := 1) (life := 5) (by decide) (by omega) (by omega) (by omega) hok hs103)) ?_
            rintro r104 w104 ⟨J3, e, B2, y2, sg2, tp2, hj3, rfl, hcase, hs104⟩
            refine RL.p rfl rfl rfl (PV_eqi rfl rfl rfl) ?_
            refine RL.done (nxt ?_)
            repeat (first | refine W.seq ?_ | refine W.region ?_)
            refine W.cond rfl (fun h7 => ?_) (fun h7 => ?_)
            ·
              repeat (first | refine W.seq ?_ | refine W.region ?_)
              refine RL.p rfl rfl rfl (PV_move rfl rfl) ?_
              refine RL.p rfl rfl rfl (PV_move rfl rfl) ?_
              refine RL.e rfl rfl rfl (K1 rfl fn9 rfl (M9 (by omega) hs104)) ?_
              rintro r105 w105 ⟨J4, hj4, htv, hs105⟩
              obtain ⟨rfl, hB2e, hsge⟩ : e = 0 ∧ B2 = B ++ K ∧ sg2 = sg + 1 := by
                rcases hcase with h | ⟨h, _⟩
                · exact h
                · rw [h] at h7; exact absurd (of_decide_eq_true h7) (by decide)
              subst hB2e hsge
              obtain ⟨Y, hsY, wand⟩ := hs105.open
              replace hsY := hsY.perm (M' := Lw ++ (Y ++ M)) (by classical exact List.perm_iff_count.2 fun a => by simp only [List.count_append]; ac_rfl)
              refine RL.e rfl rfl rfl (EF_append (l := B.length) (m := K.length) (olds := lcells B) (news := lcells K) rfl el22 rfl rfl how (length_lcells B) (htv.rd hsY) (one1_lcells K) (by omega) (by decide) hsY) ?_
              rintro r106 w106 ⟨L106, ho106, hs106⟩
              refine RL.p rfl rfl rfl (PV_assign rfl rfl) ?_
              exact RL.done (cut_end (F := (fun x : Value => [(4, x), (5, .int .i64 (i : Int)), (3, ptr rb 0), (0, .slice (some ⟨bb, off, none⟩) L.length c)])) (J := (fun x w => LedJ G M I rb (i + 1) x w)) _ (by repeat first | exact Sub.nil | refine Sub.cons rfl ?_) (by exact ⟨J4, K, B ++ K, m, y2, sg + 1, tp2, L106, hj.trans (hj3.trans hj4), hK, hok, hsort, by rw [List.length_append]; omega, by omega, by rw [lcells_append]; exact ho106, wand _ _ _ (Le.refl _) (hs106.perm (by classical exact List.perm_iff_count.2 fun a => by simp only [List.count_append]; ac_rfl))⟩))
            ·
              exact W.skip (cut_end (F := (fun x : Value => [(4, x), (5, .int .i64 (i : Int)), (3, ptr rb 0), (0, .slice (some ⟨bb, off, none⟩) L.length c)])) (J := (fun x w => LedJ G M I rb (i + 1) x w)) _ (by repeat first | exact Sub.nil | refine Sub.cons rfl ?_) (by
                  rcases hcase with ⟨h, _⟩ | ⟨_, h2, h3⟩
                  · rw [h] at h7; exact absurd (of_decide_eq_false h7) (by decide)
                  · subst h2 h3
                    exact ⟨J3, K, B2, m, y2, sg2, tp2, Lw, hj.trans hj3, hK, hok, hsort, by omega, by omega, how, hs104⟩))
          ·
            repeat (first | refine W.seq ?_ | refine W.region ?_)
            refine RL.p rfl rfl rfl (PV_move rfl rfl) ?_
            refine RL.e rfl rfl rfl (K1 rfl fn15 rfl (M15c hs103)) ?_
            rintro r104 w104 ⟨J3, m2, y2, ev, hj3, rfl, hm2, hs104⟩
            exact RL.done (cut_end (F := (fun x : Value => [(4, x), (5, .int .i64 (i : Int)), (3, ptr rb 0), (0, .slice (some ⟨bb, off, none⟩) L.length c)])) (J := (fun x w => LedJ G M I rb (i + 1) x w)) _ (by repeat first | exact Sub.nil | refine Sub.cons rfl ?_) (by exact ⟨J3, K, B, m2, y2, sg, tp, Lw, hj.trans hj3, hK, hok, hsort, by omega, by omega, how, hs104⟩))
    rintro x w203 ⟨J2, Kq, B2, m2, y2, sg2, tp2, Lw2, hj2, hK2, hok2, hsort2, hB2, hsg2, how2, hs203⟩
    refine nxt ?_
    repeat (first | refine W.seq ?_ | refine W.region ?_)
    refine RL.p rfl rfl rfl (PV_move rfl rfl) ?_
    refine RL.e rfl rfl rfl (K1 rfl fn20 rfl (M20 (by omega) hs203)) ?_
    rintro r204 w204 ⟨J3, hj3, hlv, hs204⟩
    refine RL.p rfl rfl rfl (PV_move rfl rfl) ?_
    obtain ⟨Y, hsY, wand⟩ := hs204.open
    refine RL.e rfl rfl rfl (K2 rfl fn19 rfl rfl (C19 (by omega) hlv.toM ((how2.toM (length_lcells B2) (by decide)).mono fun _ h => h.drop) hsY)) ?_
    rintro r205 w205 ⟨rfl, hs205⟩
    refine RL.p rfl rfl rfl (PV_not rfl rfl) ?_
    refine RL.done (nxt ?_)
    repeat (first | refine W.seq ?_ | refine W.region ?_)
    refine W.cond rfl (fun h8 => ?_) (fun h8 => ?_)
    · cases h8
    refine W.skip (nxt ?_)
    repeat (first | refine W.seq ?_ | refine W.region ?_)
    refine RL.p rfl rfl rfl (PV_move rfl rfl) ?_
    refine RL.p rfl rfl rfl (PV_add rfl rfl rfl (by omega)) ?_
    refine RL.p rfl rfl rfl (PV_assign rfl rfl) ?_
    refine RL.done (round_end (i + 1, x) ?_ ?_ ?_)
    · repeat first | exact Sub.nil | refine Sub.cons rfl ?_
    · exact ⟨by dsimp only; omega, by dsimp only; omega, J3, Kq, B2, m2, y2, sg2, tp2, Lw2, hj2.trans hj3, hK2, hok2, hsort2, hB2, hsg2, how2, wand _ _ _ (Le.refl _) hs205⟩
    · first | omega | (dsimp only; omega)
  repeat (first | refine W.seq ?_ | refine W.region ?_)
  refine W.exit (nxt ?_)
  repeat (first | refine W.seq ?_ | refine W.region ?_)
  refine RL.e rfl rfl rfl (K0 rfl fn11 (C11 hs103.sat)) ?_
  rintro r104 w104 ⟨rfl, hs104⟩
  refine RL.p rfl rfl rfl (PV_assign rfl rfl) ?_
  refine RL.done (nxt ?_)
  repeat (first | refine W.seq ?_ | refine W.region ?_)
  exact W.ret (ret_tmp rfl rfl ⟨_, rfl, rfl, (hs104.drop).le hj⟩)

end Go.Proofs.YtecbpmgfikgoaaaGreatDoor
