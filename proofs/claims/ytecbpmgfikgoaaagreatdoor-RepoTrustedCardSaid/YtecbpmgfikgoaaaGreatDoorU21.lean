/- Walks of functions 28 31: what each call gives back, and that it writes nothing of anybody else's. Conditions: as each theorem says. -/
import Derived.Test.YtecbpmgfikgoaaaGreatDoorV1
set_option linter.unusedVariables false
set_option linter.unusedSimpArgs false
set_option maxRecDepth 8000
set_option maxHeartbeats 4000000
namespace Go.Proofs.YtecbpmgfikgoaaaGreatDoor
open Go Go.RowKit
variable {G w : World} {M : List Chunk} {I : Imm}

theorem C28 {s : Value} {K : List Tgt} {t : Tgt} {i vb : Nat} {Ll : List Chunk} (hi : i ≤ K.length) (hK : K.length ≤ 2 ^ 20) (hol : OwnS 26 37 s (lcells K) Ll) (hs : Sat G (Ll ++ (vb, tcells t, 26) :: M) I w) :
    Calls Tryz.prog 28 #[s, .int .i64 (i : Int), .slice (some ⟨vb, 0, none⟩) 1 1] w (Ret fun r w' => ∃ L', OwnS 26 37 r (lcells (K.take i ++ t :: K.drop i)) L' ∧ Sat G (L' ++ M) I w') := by
  obtain ⟨A, c, rfl, hc⟩ := hol.shape (length_lcells K) (by decide)
  have htl := length_tcells t
  have hz37 : zl26.length = 37 := rfl
  refine enter3 Tryz.func28 rfl Tryz.ntmps28 rfl ?_
  repeat (first | refine W.seq ?_ | refine W.region ?_)
  refine RL.p rfl rfl rfl (PV_assign rfl rfl) ?_
  refine RL.done (nxt ?_)
  repeat (first | refine W.seq ?_ | refine W.region ?_)
  refine RL.p rfl rfl rfl (PV_move rfl rfl) ?_
  refine RL.p rfl rfl rfl (PV_move rfl rfl) ?_
  refine RL.p rfl rfl rfl (PV_sliceG (p := i) rfl Tryz.underlying22 sz26 rfl rfl rfl hi) ?_
  refine RL.done (nxt ?_)
  repeat (first | refine W.seq ?_ | refine W.region ?_)
  refine RL.p rfl rfl rfl (PV_move rfl rfl) ?_
  refine RL.p rfl rfl rfl (PV_len rfl Tryz.underlying22 rfl) ?_
  refine RL.p rfl rfl rfl (PV_assign rfl rfl) ?_
  refine RL.done (nxt ?_)
  repeat (first | refine W.seq ?_ | refine W.region ?_)
  refine RL.p rfl rfl rfl (PV_move rfl rfl) ?_
  refine RL.p rfl rfl rfl (PV_eqi rfl rfl rfl) ?_
  refine RL.done (nxt ?_)
  repeat (first | refine W.seq ?_ | refine W.region ?_)
  refine W.cond rfl (fun h1 => ?_) (fun h1 => ?_)
  · exact absurd (of_decide_eq_true h1) (by omega)
  refine W.skip (nxt ?_)
  repeat (first | refine W.seq ?_ | refine W.region ?_)
  refine RL.p rfl rfl rfl (PV_move rfl rfl) ?_
  refine RL.p rfl rfl rfl (PV_len rfl Tryz.underlying22 rfl) ?_
  refine RL.p rfl rfl rfl (PV_assign rfl rfl) ?_
  refine RL.done (nxt ?_)
  repeat (first | refine W.seq ?_ | refine W.region ?_)
  refine RL.p rfl rfl rfl (PV_move rfl rfl) ?_
  refine RL.p rfl rfl rfl (PV_move rfl rfl) ?_
  refine RL.p rfl rfl rfl (PV_eqi rfl rfl rfl) ?_
  refine RL.done (nxt ?_)
  repeat (first | refine W.seq ?_ | refine W.region ?_)
  refine W.cond rfl (fun h2 => ?_) (fun h2 => ?_)
  ·
    repeat (first | refine W.seq ?_ | refine W.region ?_)
    refine RL.p rfl rfl rfl (PV_move rfl rfl) ?_
    refine RL.p rfl rfl rfl (PV_move rfl rfl) ?_
    refine RL.e rfl rfl rfl (EF_append (l := K.length) (m := 1) (news := tcells t) rfl el22 rfl rfl hol (length_lcells K) (rdW hs (mapp m0) htl (Nat.le_refl _)) (one1_tcells t) (by omega) (by decide) hs) ?_
    rintro r1 w1 ⟨L1, ho1, hs1⟩
    refine RL.p rfl rfl rfl (PV_assign rfl rfl) ?_
    refine RL.done (nxt ?_)
    repeat (first | refine W.seq ?_ | refine W.region ?_)
    exact W.ret (ret_tmp rfl rfl ⟨_, rfl, L1, by
      have hik : i = K.length := by have := of_decide_eq_true h2; omega
      rw [hik, List.take_length, List.drop_length, lcells_append, lcells_one]
      exact ho1, hs1.del (Del.app x0)⟩)
  have hin : i < K.length := by have := of_decide_eq_false h2; omega
  rcases hol with ⟨_, hl0, _⟩ | ⟨b, len, cap, zs, he, hlen, hL, hcap, hle⟩
  · have := length_lcells K
    rw [hl0] at this
    simp at this
    omega
  obtain ⟨rfl, rfl, rfl⟩ : A = some ⟨b, 0, none⟩ ∧ len = K.length ∧ c = cap := by
    simp only [Value.slice.injEq] at he
    exact ⟨he.1, he.2.1.symm, he.2.2⟩
  subst hL
  replace hs : Sat G ((b, lcells K ++ zs, 26) :: (vb, tcells t, 26) :: M) I w := hs
  have htk : (lcells (K.take i)).length = i * 37 := by rw [length_lcells, List.length_take, Nat.min_eq_left hi]
  have hdk : (lcells (K.drop i)).length = (K.length - i) * 37 := by rw [length_lcells, List.length_drop]
  refine W.skip (nxt ?_)
  repeat (first | refine W.seq ?_ | refine W.region ?_)
  refine RL.p rfl rfl rfl (PV_move rfl rfl) ?_
  refine RL.p rfl rfl rfl (PV_move rfl rfl) ?_
  refine RL.p rfl rfl rfl (PV_add rfl rfl rfl (by omega)) ?_
  refine RL.p rfl rfl rfl (PV_move rfl rfl) ?_
  refine RL.p rfl rfl rfl (PV_cap rfl Tryz.underlying22 rfl) ?_
  refine RL.p rfl rfl rfl (PV_gtr rfl rfl rfl) ?_
  refine RL.done (nxt ?_)
  repeat (first | refine W.seq ?_ | refine W.region ?_)
  refine W.cond rfl (fun h3 => ?_) (fun h3 => ?_)
  ·
    repeat (first | refine W.seq ?_ | refine W.region ?_)
    refine RL.p rfl rfl rfl (PV_move rfl rfl) ?_
    refine RL.p rfl rfl rfl (PV_move rfl rfl) ?_
    refine RL.p rfl rfl rfl (PV_sliceHi (r := i) rfl Tryz.underlying22 sz26 rfl rfl (by omega) (by omega)) ?_
    refine RL.p rfl rfl rfl (PV_move rfl rfl) ?_
    refine RL.p rfl rfl rfl (PV_move rfl rfl) ?_
    refine RL.p rfl rfl rfl (PV_add rfl rfl rfl (by omega)) ?_
    refine RL.p rfl rfl rfl (PV_move rfl rfl) ?_
    refine RL.p rfl rfl rfl (PV_sub rfl rfl rfl (by omega)) ?_
    refine RL.e rfl rfl rfl (EF_appendZ (l := i) (m := K.length + 1 - i) (olds := lcells (K.take i)) rfl el22 Tryz.underlying3 rfl rfl (by omega) (rdM hs m0 (by omega) (by rw [hcap, hz37]; omega) (part_lo hi)) (by have := of_decide_eq_true h3; omega) (by omega) (by decide) hs) ?_
    rintro r1 w1 ⟨bz, ys, cz, rfl, hcz, hlz, hs1⟩
    rw [hz37] at hlz
    refine RL.p rfl rfl rfl (PV_assign rfl rfl) ?_
    refine RL.done (nxt ?_)
    repeat (first | refine W.seq ?_ | refine W.region ?_)
    refine RL.p rfl rfl rfl (PV_move rfl rfl) ?_
    refine RL.p rfl rfl rfl (PV_move rfl rfl) ?_
    refine RL.p rfl rfl rfl (PV_sliceLo (p := i) rfl Tryz.underlying22 sz26 rfl rfl (by omega) (by omega) (by omega)) ?_
    refine RL.p rfl rfl rfl (PV_move rfl rfl) ?_
    refine RL.e rfl rfl rfl (EF_copyC (cs := lcells (K.take i) ++ ys) (m := 1) (news := tcells t) (vs := tcells t) rfl el22 rfl rfl (rdW hs1 m2 htl (Nat.le_refl _)) (List.take_of_length_le (by rw [hz37, htl]; omega)) (one1_tcells t) (by rw [htl, hlz]; omega) rfl hs1 (by first | exact u0 | exact u1 | exact u2 | exact u3 | exact u4 | exact u5 | exact u0.app | exact u1.app | exact u2.app | exact u3.app)) ?_
    rintro r2 w2 ⟨rfl, hs2⟩
    refine RL.done (nxt ?_)
    repeat (first | refine W.seq ?_ | refine W.region ?_)
    refine W.drawsH hs2.tail [(0, true), (1, true), (2, true), (3, true), (4, true), (5, true), (6, false), (7, false), (8, false)] mixed (by kernel_rfl) (by kernel_rfl) ?_
    have hs3 := hs2.drew
    refine TW.p rfl rfl rfl rfl (PV_move rfl rfl) (hs3.tail) ?_
    refine TW.p rfl rfl rfl rfl (PV_move rfl rfl) (hs3.tail) ?_
    refine TW.p rfl rfl rfl rfl (PV_move rfl rfl) (hs3.tail) ?_
    refine TW.p rfl rfl rfl rfl (PV_add rfl rfl rfl (by omega)) (hs3.tail) ?_
    refine TW.p rfl rfl rfl rfl (PV_sliceLo (p := i + 1) rfl Tryz.underlying22 sz26 rfl rfl (by omega) (by omega) (by omega)) (hs3.tail) ?_
    refine TW.p rfl rfl rfl rfl (PV_move rfl rfl) (hs3.tail) ?_
    refine TW.q rfl rfl rfl rfl (T := fun _ => True) (PV_move rfl rfl) trivial (fun _ => (hs3.tail)) ?_
    refine TW.q rfl rfl rfl rfl (T := fun _ => True) (PV_sliceLo (p := i) rfl Tryz.underlying22 sz26 rfl rfl (by omega) (by omega) (by omega)) trivial (fun _ => (hs3.tail)) ?_
    refine TW.e rfl rfl rfl rfl (EF_copyC (cs := splice (lcells (K.take i) ++ ys) (0 + i * 37) (tcells t)) (m := K.length - i) (news := lcells (K.drop i)) (vs := lcells (K.drop i)) (cs' := lcells (K.take i) ++ (tcells t ++ (lcells (K.drop i) ++ (lcells (K.take i) ++ ys).drop (i * 37 + 37 + (K.length - i) * 37)))) rfl el22 rfl rfl (rdM hs3 m1 (by omega) (by rw [hcap, hz37]; omega) (part_hi hi)) (List.take_of_length_le (by rw [hz37, hdk]; omega)) (one1_lcells _) (by rw [length_splice (by rw [htl, hlz]; omega), hdk, hlz]; omega) (by
        have := splice2' (cs := lcells (K.take i) ++ ys) (T := tcells t) (Y := lcells (K.drop i)) (x := i * 37) (by rw [htl, hdk, hlz]; omega)
        rw [htl, hdk] at this
        rw [show 0 + (i + 1) * 37 = i * 37 + 37 by omega, Nat.zero_add, this, show i * 37 = (lcells (K.take i)).length from htk.symm, List.take_left]) hs3 (by first | exact u0 | exact u1 | exact u2 | exact u3 | exact u4 | exact u5 | exact u0.app | exact u1.app | exact u2.app | exact u3.app)) ?_
    rintro r4 w4 ⟨rfl, hs4⟩
    refine ⟨(hs4.tail), ?_⟩
    refine TW.done (nxt ?_)
    repeat (first | refine W.seq ?_ | refine W.region ?_)
    refine RL.p rfl rfl rfl (PV_move rfl rfl) ?_
    refine RL.p rfl rfl rfl (PV_assign rfl rfl) ?_
    refine RL.done (nxt ?_)
    repeat (first | refine W.seq ?_ | refine W.region ?_)
    exact W.ret (ret_tmp rfl rfl ⟨_, rfl, _, ins_own hi hcz (by simp only [List.length_append, List.length_drop, htl, hdk, htk, hlz] at hlz ⊢; omega), (hs4.del x1).del x1⟩)
  have h3f : K.length + 1 ≤ c := by have := of_decide_eq_false h3; omega
  refine  W.skip (nxt ?_)
  repeat (first | refine W.seq ?_ | refine W.region ?_)
  refine RL.p rfl rfl rfl (PV_move rfl rfl) ?_
  refine RL.p rfl rfl rfl (PV_move rfl rfl) ?_
  refine RL.p rfl rfl rfl (PV_move rfl rfl) ?_
  refine RL.p rfl rfl rfl (PV_add rfl rfl rfl (by omega)) ?_
  refine RL.p rfl rfl rfl (PV_sliceHi (r := K.length + 1) rfl Tryz.underlying22 sz26 rfl rfl (by omega) (by omega)) ?_
  refine RL.p rfl rfl rfl (PV_assign rfl rfl) ?_
  refine RL.done (nxt ?_)
  repeat (first | refine W.seq ?_ | refine W.region ?_)
  refine RL.p rfl rfl rfl (PV_move rfl rfl) ?_
  refine RL.p rfl rfl rfl (PV_move rfl rfl) ?_
  refine RL.p rfl rfl rfl (PV_move rfl rfl) ?_
  refine RL.p rfl rfl rfl (PV_move rfl rfl) ?_
  refine RL.p rfl rfl rfl (PV_add rfl rfl rfl (by omega)) ?_
  refine RL.p rfl rfl rfl (PV_sliceLo (p := i + 1) rfl Tryz.underlying22 sz26 rfl rfl (by omega) (by omega) (by omega)) ?_
  refine RL.s rfl rfl rfl (PV_overlaps rfl rfl rfl (fun e => (List.nodup_cons.1 hs.nodup).1 (by simp [e])) m1 m0 (fun e => by have h := congrArg List.length e; rw [hcap] at h; simp at h; omega)) hs ?_
  refine RL.p rfl rfl rfl (PV_not rfl rfl) ?_
  refine RL.done (nxt ?_)
  repeat (first | refine W.seq ?_ | refine W.region ?_)
  refine W.cond rfl (fun h4 => ?_) (fun h4 => ?_)
  rotate_left
  · cases h4
  repeat (first | refine W.seq ?_ | refine W.region ?_)
  refine W.drawsH hs.tail [(0, true), (1, true), (2, true), (3, true), (4, true), (5, true), (6, false), (7, false), (8, false)] mixed (by kernel_rfl) (by kernel_rfl) ?_
  have hs1 := hs.drew
  refine TW.p rfl rfl rfl rfl (PV_move rfl rfl) (hs1.tail) ?_
  refine TW.p rfl rfl rfl rfl (PV_move rfl rfl) (hs1.tail) ?_
  refine TW.p rfl rfl rfl rfl (PV_move rfl rfl) (hs1.tail) ?_
  refine TW.p rfl rfl rfl rfl (PV_add rfl rfl rfl (by omega)) (hs1.tail) ?_
  refine TW.p rfl rfl rfl rfl (PV_sliceLo (p := i + 1) rfl Tryz.underlying22 sz26 rfl rfl (by omega) (by omega) (by omega)) (hs1.tail) ?_
  refine TW.p rfl rfl rfl rfl (PV_move rfl rfl) (hs1.tail) ?_
  refine TW.q rfl rfl rfl rfl (T := fun _ => True) (PV_move rfl rfl) trivial (fun _ => (hs1.tail)) ?_
  refine TW.q rfl rfl rfl rfl (T := fun _ => True) (PV_sliceLo (p := i) rfl Tryz.underlying22 sz26 rfl rfl (by omega) (by omega) (by omega)) trivial (fun _ => (hs1.tail)) ?_
  refine TW.e rfl rfl rfl rfl (EF_copyC (cs := lcells K ++ zs) (m := K.length + 1 - i) (news := part (lcells K ++ zs) (0 + i * 37) ((K.length + 1 - i) * 37)) (vs := lcells (K.drop i)) rfl el22 rfl rfl (rdM hs1 m0 (by omega) (by rw [hcap, hz37]; omega) rfl) (by
      rw [part, List.take_take, hz37, show min (min (K.length + 1 - i) (K.length + 1 - (i + 1)) * 37) ((K.length + 1 - i) * 37) = (K.length - i) * 37 by omega]
      exact part_hi hi) (one1_lcells _) (by rw [hdk, hcap]; omega) rfl hs1 (by first | exact u0 | exact u1 | exact u2 | exact u3 | exact u4 | exact u5 | exact u0.app | exact u1.app | exact u2.app | exact u3.app)) ?_
  rintro r2 w2 ⟨rfl, hs2⟩
  refine ⟨(hs2.tail), ?_⟩
  refine TW.done (nxt ?_)
  repeat (first | refine W.seq ?_ | refine W.region ?_)
  refine RL.p rfl rfl rfl (PV_move rfl rfl) ?_
  refine RL.p rfl rfl rfl (PV_move rfl rfl) ?_
  refine RL.p rfl rfl rfl (PV_sliceLo (p := i) rfl Tryz.underlying22 sz26 rfl rfl (by omega) (by omega) (by omega)) ?_
  refine RL.p rfl rfl rfl (PV_move rfl rfl) ?_
  refine RL.e rfl rfl rfl (EF_copyC (cs := splice (lcells K ++ zs) (0 + (i + 1) * 37) (lcells (K.drop i))) (m := 1) (news := tcells t) (vs := tcells t) (cs' := lcells (K.take i) ++ (tcells t ++ (lcells (K.drop i) ++ (lcells K ++ zs).drop (i * 37 + 37 + (K.length - i) * 37)))) rfl el22 rfl rfl (rdW hs2 m1 htl (Nat.le_refl _)) (List.take_of_length_le (by rw [hz37, htl]; omega)) (one1_tcells t) (by rw [length_splice (by rw [hdk, hcap]; omega), htl, hcap]; omega) (by
      have := splice2 (cs := lcells K ++ zs) (T := tcells t) (Y := lcells (K.drop i)) (x := i * 37) (by rw [htl, hdk, hcap]; omega)
      rw [htl, hdk] at this
      rw [show 0 + (i + 1) * 37 = i * 37 + 37 by omega, Nat.zero_add, this, List.take_append_of_le_length (by rw [length_lcells]; omega), lcells_take]) hs2 (by first | exact u0 | exact u1 | exact u2 | exact u3 | exact u4 | exact u5 | exact u0.app | exact u1.app | exact u2.app | exact u3.app)) ?_
  rintro r3 w3 ⟨rfl, hs3⟩
  refine RL.done (nxt ?_)
  repeat (first | refine W.seq ?_ | refine W.region ?_)
  refine RL.p rfl rfl rfl (PV_move rfl rfl) ?_
  refine RL.p rfl rfl rfl (PV_assign rfl rfl) ?_
  refine RL.done (nxt ?_)
  repeat (first | refine W.seq ?_ | refine W.region ?_)
  exact W.ret (ret_tmp rfl rfl ⟨_, rfl, _, by
    have ho := ins_own (b := b) (c := c) (t := t) (zs := (lcells K ++ zs).drop (i * 37 + 37 + (K.length - i) * 37)) hi (by omega) (by simp only [List.length_append, List.length_drop, htl, hdk, htk] at hcap ⊢; rw [length_lcells] at hcap ⊢; omega)
    rw [show i + (K.length + 1 - i) = K.length + 1 by omega] at ho
    exact ho, hs3.del x1⟩)

theorem C31 {s : Value} {K : List Tgt} {i : Nat} {Ll : List Chunk} (hi : i < K.length) (hK : K.length ≤ 2 ^ 20) (hol : OwnS 26 37 s (lcells K) Ll) (hs : Sat G (Ll ++ M) I w) :
    Calls Tryz.prog 31 #[s, .int .i64 (i : Int), .int .i64 ((i : Int) + 1)] w (Ret fun r w' => ∃ L', OwnS 26 37 r (lcells (K.eraseIdx i)) L' ∧ Sat G (L' ++ M) I w') := by
  have hz37 : zl26.length = 37 := rfl
  rcases hol with ⟨_, hl0, _⟩ | ⟨b, len, c, zs, rfl, hlen, hL, hcap, hle⟩
  · have := length_lcells K
    rw [hl0] at this
    simp at this
    omega
  obtain rfl : len = K.length := by have := length_lcells K; omega
  subst hL
  replace hs : Sat G ((b, lcells K ++ zs, 26) :: M) I w := hs
  have hdk : (lcells (K.drop (i + 1))).length = (K.length - (i + 1)) * 37 := by rw [length_lcells, List.length_drop]
  refine enter3 Tryz.func31 rfl Tryz.ntmps31 rfl ?_
  repeat (first | refine W.seq ?_ | refine W.region ?_)
  refine RL.p rfl rfl rfl (PV_assign rfl rfl) ?_
  refine RL.done (nxt ?_)
  repeat (first | refine W.seq ?_ | refine W.region ?_)
  refine RL.p rfl rfl rfl (PV_move rfl rfl) ?_
  refine RL.p rfl rfl rfl (PV_move rfl rfl) ?_
  refine RL.p rfl rfl rfl (PV_move rfl rfl) ?_
  refine RL.p rfl rfl rfl (PV_move rfl rfl) ?_
  refine RL.p rfl rfl rfl (PV_len rfl Tryz.underlying22 rfl) ?_
  refine RL.p rfl rfl rfl (PV_slice3 (p := i) (r := i + 1) (m := K.length) rfl Tryz.underlying22 sz26 rfl rfl rfl rfl rfl (by omega) rfl (by omega) (by omega) hle) ?_
  refine RL.done (nxt ?_)
  repeat (first | refine W.seq ?_ | refine W.region ?_)
  refine RL.p rfl rfl rfl (PV_move rfl rfl) ?_
  refine RL.p rfl rfl rfl (PV_move rfl rfl) ?_
  refine RL.p rfl rfl rfl (PV_eqi rfl rfl rfl) ?_
  refine RL.done (nxt ?_)
  repeat (first | refine W.seq ?_ | refine W.region ?_)
  refine W.cond rfl (fun h1 => ?_) (fun h1 => ?_)
  · exact absurd (of_decide_eq_true h1) (by omega)
  refine W.skip (nxt ?_)
  repeat (first | refine W.seq ?_ | refine W.region ?_)
  refine RL.p rfl rfl rfl (PV_move rfl rfl) ?_
  refine RL.p rfl rfl rfl (PV_len rfl Tryz.underlying22 rfl) ?_
  refine RL.p rfl rfl rfl (PV_assign rfl rfl) ?_
  refine RL.done (nxt ?_)
  repeat (first | refine W.seq ?_ | refine W.region ?_)
  refine W.drawsH hs.tail [(0, true), (1, true), (2, true), (3, true), (4, false), (5, false), (6, false), (7, false)] mixed (by kernel_rfl) (by kernel_rfl) ?_
  have hs1 := hs.drew
  refine TW.p rfl rfl rfl rfl (PV_move rfl rfl) (hs1.tail) ?_
  refine TW.p rfl rfl rfl rfl (PV_move rfl rfl) (hs1.tail) ?_
  refine TW.p rfl rfl rfl rfl (PV_sliceHi (r := i) rfl Tryz.underlying22 sz26 rfl rfl (by omega) (by omega)) (hs1.tail) ?_
  refine TW.p rfl rfl rfl rfl (PV_move rfl rfl) (hs1.tail) ?_
  refine TW.q rfl rfl rfl rfl (T := fun _ => True) (PV_move rfl rfl) trivial (fun _ => (hs1.tail)) ?_
  refine TW.q rfl rfl rfl rfl (T := fun _ => True) (PV_sliceG (p := i + 1) rfl Tryz.underlying22 sz26 rfl rfl rfl hi) trivial (fun _ => (hs1.tail)) ?_
  refine TW.e rfl rfl rfl rfl (EF_appendFit (l := i) (m := K.length - (i + 1)) (news := lcells (K.drop (i + 1))) rfl el22 rfl rfl (rd_tail (P := Tryz.prog) hs1 m0 hcap hi hle) (one1_lcells _) (by omega) (by rw [hcap, hz37]; omega) hs1 u0) ?_
  rintro r2 w2 ⟨rfl, hs2⟩
  refine ⟨(hs2.tail), ?_⟩
  refine TW.qn rfl rfl rfl rfl (T := fun _ => True) (PV_assign rfl rfl) trivial (by kernel_rfl) ?_
  refine TW.done (nxt ?_)
  repeat (first | refine W.seq ?_ | refine W.region ?_)
  refine RL.p rfl rfl rfl (PV_move rfl rfl) ?_
  refine RL.p rfl rfl rfl (PV_move rfl rfl) ?_
  refine RL.p rfl rfl rfl (PV_len rfl Tryz.underlying22 rfl) ?_
  refine RL.p rfl rfl rfl (PV_move rfl rfl) ?_
  refine RL.p rfl rfl rfl (PV_sliceLH (p := i + (K.length - (i + 1))) (r := K.length) rfl Tryz.underlying22 sz26 rfl rfl rfl rfl rfl (by omega) hle (by omega)) ?_
  refine RL.e0 rfl rfl (EF_clear1 (cs := splice (lcells K ++ zs) (i * 37) (lcells (K.drop (i + 1)))) rfl el22 rfl rfl (by omega) (by rw [length_splice (by rw [hdk, hcap]; omega), hz37, hcap]; omega) hs2 (by first | exact u0 | exact u1 | exact u2 | exact u3 | exact u4 | exact u5 | exact u0.app | exact u1.app | exact u2.app | exact u3.app)) ?_
  rintro r3 w3 hs3
  refine RL.done (nxt ?_)
  repeat (first | refine W.seq ?_ | refine W.region ?_)
  refine RL.p rfl rfl rfl (PV_move rfl rfl) ?_
  refine RL.p rfl rfl rfl (PV_assign rfl rfl) ?_
  refine RL.done (nxt ?_)
  repeat (first | refine W.seq ?_ | refine W.region ?_)
  exact W.ret (ret_tmp rfl rfl ⟨_, rfl, _, del_own hi hle hcap, hs3⟩)

end Go.Proofs.YtecbpmgfikgoaaaGreatDoor
