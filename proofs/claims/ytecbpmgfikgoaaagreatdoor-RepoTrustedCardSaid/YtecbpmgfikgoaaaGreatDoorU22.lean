/- Walks of functions 8 14: what each call gives back, and that it writes nothing of anybody else's. Conditions: as each theorem says. -/
import Derived.Test.YtecbpmgfikgoaaaGreatDoorU21
set_option linter.unusedVariables false
set_option linter.unusedSimpArgs false
set_option maxRecDepth 8000
set_option maxHeartbeats 4000000
namespace Go.Proofs.YtecbpmgfikgoaaaGreatDoor
open Go Go.RowKit
variable {G w : World} {M : List Chunk} {I : Imm}

theorem Sat.dropu {c : Chunk} {L : List Chunk} (h : Sat G (c :: (L ++ M)) I w) : Sat G (c :: M) I w := h.sub (List.Sublist.cons_cons _ (List.sublist_append_right L M))
theorem Sat.mid2 {a b : Chunk} {L : List Chunk} (h : Sat G (a :: b :: (L ++ M)) I w) : Sat G (L ++ a :: b :: M) I w := h.perm (List.perm_middle.trans (List.Perm.cons _ List.perm_middle))
/-- What Publish does to the list. -/
def PubR (K : List Tgt) (t : Tgt) (e : Int) (K' : List Tgt) : Prop :=
  (soloB t = false ∧ e = 1 ∧ K' = K) ∨ (soloB t = true ∧ ∃ i, i ≤ K.length ∧ (∀ a, 0 < i → K[i - 1]? = some a → orderI a t < 0) ∧ (∀ b, K[i]? = some b → 0 ≤ orderI b t) ∧
    ((foundB K t i = true ∧ e = 0 ∧ K' = K.set i t) ∨ (foundB K t i = false ∧ 16 ≤ K.length ∧ e = 12 ∧ K' = K) ∨ (foundB K t i = false ∧ K.length < 16 ∧ e = 0 ∧ K' = K.take i ++ t :: K.drop i)))
/-- What Remove does to the list. -/
def RemR (K : List Tgt) (t : Tgt) (e : Int) (K' : List Tgt) : Prop :=
  ∃ i, i ≤ K.length ∧ (∀ a, 0 < i → K[i - 1]? = some a → orderI a t < 0) ∧ (∀ b, K[i]? = some b → 0 ≤ orderI b t) ∧ ((foundB K t i = true ∧ e = 0 ∧ K' = K.eraseIdx i) ∨ (foundB K t i = false ∧ e = 9 ∧ K' = K))
theorem found_lt {K : List Tgt} {t : Tgt} {i : Nat} (h : foundB K t i = true) : i < K.length := by
  unfold foundB at h
  split at h
  · rename_i b hb
    exact (List.getElem?_eq_some_iff.1 hb).1
  · cases h
theorem set_cells {K : List Tgt} {t : Tgt} {i : Nat} {zs : List Value} (hi : i < K.length) : splice (lcells K ++ zs) (0 + i * 37) (tcells t) = lcells (K.set i t) ++ zs := by
  have hl := length_lcells K
  rw [splice, length_tcells, Nat.zero_add, List.take_append_of_le_length (by omega), lcells_take, show i * 37 + 37 = (i + 1) * 37 by omega, List.drop_append_of_le_length (by omega), lcells_drop]
  rw [List.set_eq_take_append_cons_drop, if_pos hi, show K.take i ++ t :: K.drop (i + 1) = K.take i ++ ([t] ++ K.drop (i + 1)) from rfl, lcells_append, lcells_append, lcells_one]
  simp [List.append_assoc]
theorem set_self {rc : List Value} {j : Nat} {v : Value} (h : rc[j]? = some v) : rc.set j v = rc := by
  obtain ⟨h1, h2⟩ := List.getElem?_eq_some_iff.1 h
  rw [← h2, List.set_getElem_self]

def remT (a b : ByteArray) : Tgt := ⟨a, 0, List.replicate 32 0, .empty, 0, b, rfl⟩
theorem fill_rem {a b : ByteArray} : fillL [(0, 1), (1, 1), (2, 32), (34, 1), (35, 1), (36, 1)] zl26 ([(0, Value.string a), (5, Value.string b)].map fun x => (x.1, x.2.cells.toList)) = some (tcells (remT a b)) := by
  unfold tcells
  rfl

theorem C8 {rb : Nat} {rc : List Value} {l : Value} {K : List Tgt} {t : Tgt} {Ll R : List Chunk} (hrl : rc.length = 64) (hr : rc[55]? = some l) (hok : t.ok) (hK : K.length ≤ 2 ^ 10) (hol : OwnS 26 37 l (lcells K) Ll) (hs : Sat G (Ll ++ (rb, rc, 78) :: R) I w) :
    Calls Tryz.prog 8 #[ptr rb 0, aggL (tcells t)] w (Ret fun r w' => ∃ e K' l' Ll', r = .int .i64 e ∧ PubR K t e K' ∧ OwnS 26 37 l' (lcells K') Ll' ∧ Sat G (Ll' ++ (rb, rc.set 55 l', 78) :: R) I w') := by
  obtain ⟨A, c, rfl, hc⟩ := hol.shape (length_lcells K) (by decide)
  have htl := length_tcells t
  refine enter2 Tryz.func8 rfl Tryz.ntmps8 rfl ?_
  repeat (first | refine W.seq ?_ | refine W.region ?_)
  refine RL.e rfl rfl rfl (EF_boxA rfl rfl hs) ?_
  rintro r1 w1 ⟨b3, rfl, hs1⟩
  refine RL.p rfl rfl rfl (PV_assign rfl rfl) ?_
  refine RL.done (nxt ?_)
  repeat (first | refine W.seq ?_ | refine W.region ?_)
  refine RL.p rfl rfl rfl (PV_move rfl rfl) ?_
  refine RL.p rfl rfl rfl (PV_eqnil rfl Tryz.underlying27 rfl rfl) ?_
  refine RL.p rfl rfl rfl (PV_move rfl rfl) ?_
  refine RL.split 9 rfl (fun g1 => by cases g1) (fun g1 => ?_)
  refine RL.gs rfl rfl rfl rfl g1 rfl rfl rfl (PV_loadMA rfl ag26 sz26 rfl m0 (by rw [length_tcells]; decide) (part_whole (length_tcells _))) hs1 ?_
  refine RL.ge rfl rfl rfl rfl g1 rfl rfl rfl (K1 rfl fn25 rfl (C25 hok hs1)) ?_
  rintro r2 w2 ⟨rfl, hs2⟩
  refine RL.gp rfl rfl rfl rfl g1 rfl rfl rfl (PV_not rfl rfl) ?_
  refine RL.p rfl rfl rfl (PV_pickF rfl rfl g1 rfl) ?_
  refine RL.done (nxt ?_)
  repeat (first | refine W.seq ?_ | refine W.region ?_)
  refine W.cond rfl (fun h1 => ?_) (fun h1 => ?_)
  ·
    repeat (first | refine W.seq ?_ | refine W.region ?_)
    refine RL.p rfl rfl rfl (PV_assign rfl rfl) ?_
    refine RL.done (nxt ?_)
    repeat (first | refine W.seq ?_ | refine W.region ?_)
    exact W.ret (ret_tmp rfl rfl ⟨_, rfl, 1, K, _, Ll, rfl, .inl ⟨by simpa using h1, rfl, rfl⟩, hol, by rw [set_self hr]; exact hs2.tail⟩)
  have hsolo : soloB t = true := by simpa using h1
  refine  W.skip (nxt ?_)
  repeat (first | refine W.seq ?_ | refine W.region ?_)
  refine W.drawsH hs2 [(0, true), (1, true), (2, true), (3, true), (4, false), (5, false), (6, false), (7, true), (8, true), (9, false), (10, false)] mixed (by kernel_rfl) (by kernel_rfl) ?_
  have hs3 := hs2.drew
  refine TW.p rfl rfl rfl rfl (PV_move rfl rfl) hs3 ?_
  refine TW.p rfl rfl rfl rfl (PV_nilCheckP rfl rfl) hs3 ?_
  refine TW.p rfl rfl rfl rfl (by first | exact PV_fieldAddr0 rfl rfl fa78_5 | exact PV_fieldAddr rfl rfl fa78_5) hs3 ?_
  refine TW.s rfl rfl rfl rfl (PV_loadM1 rfl ag22 rfl (.tail _ (mapp m0)) hr) hs3 ?_
  refine TW.q rfl rfl rfl rfl (PV_loadMA rfl ag26 sz26 rfl m0 (by rw [length_tcells]; decide) (part_whole (length_tcells _))) hs3 (fun _ => hs3) ?_
  refine TW.e rfl rfl rfl rfl (K3 rfl fn26 rfl rfl rfl (C26 (by omega) ((hol.toM (length_lcells K) (by decide)).mono fun _ h => h.tail) hs3)) ?_
  rintro r4 w4 ⟨⟨i, hi, rfl, hlo, hhi⟩, hs4⟩
  refine ⟨hs4, ?_⟩
  refine TW.q rfl rfl rfl rfl (T := fun _ => True) (PV_move rfl rfl) trivial (fun _ => hs4) ?_
  refine TW.p rfl rfl rfl rfl (PV_extract rfl rfl rfl) hs4 ?_
  refine TW.p rfl rfl rfl rfl (PV_extract rfl rfl rfl) hs4 ?_
  refine TW.q rfl rfl rfl rfl (T := fun _ => True) (PV_assign rfl rfl) trivial (fun _ => hs4) ?_
  refine TW.qn rfl rfl rfl rfl (T := fun _ => True) (PV_assign rfl rfl) trivial (by kernel_rfl) ?_
  refine TW.done (nxt ?_)
  repeat (first | refine W.seq ?_ | refine W.region ?_)
  refine W.cut (fun _ : Unit => []) (fun _ w => ∃ K' l' Ll', PubR K t 0 K' ∧ OwnS 26 37 l' (lcells K') Ll' ∧ Sat G (Ll' ++ (rb, rc.set 55 l', 78) :: R) I w) ?_ ?_
  ·
    repeat (first | refine W.seq ?_ | refine W.region ?_)
    refine W.block ?_
    repeat (first | refine W.seq ?_ | refine W.region ?_)
    refine RL.p rfl rfl rfl (PV_move rfl rfl) ?_
    refine RL.p rfl rfl rfl (PV_assign rfl rfl) ?_
    refine RL.done (nxt ?_)
    repeat (first | refine W.seq ?_ | refine W.region ?_)
    refine W.cond rfl (fun h2 => ?_) (fun h2 => ?_)
    ·
      have hin := found_lt h2
      rcases hol with ⟨_, hl0, _⟩ | ⟨b, len, cap, zs, he, hlen, hL, hcap, hle⟩
      · have := length_lcells K
        rw [hl0] at this
        simp at this
        omega
      obtain ⟨rfl, rfl, rfl⟩ : A = some ⟨b, 0, none⟩ ∧ len = K.length ∧ c = cap := by
        simp only [Value.slice.injEq] at he
        exact ⟨he.1, he.2.1.symm, he.2.2⟩
      subst hL
      replace hs4 : Sat G ((b3, tcells t, 26) :: (b, lcells K ++ zs, 26) :: (rb, rc, 78) :: R) I w4 := hs4
      repeat (first | refine W.seq ?_ | refine W.region ?_)
      refine W.drawsH hs4 [(0, true), (1, true), (2, true), (3, true), (4, true), (5, false), (6, false), (7, false)] mixed (by kernel_rfl) (by kernel_rfl) ?_
      have hs5 := hs4.drew
      refine TW.p rfl rfl rfl rfl (PV_move rfl rfl) hs5 ?_
      refine TW.p rfl rfl rfl rfl (PV_nilCheckP rfl rfl) hs5 ?_
      refine TW.p rfl rfl rfl rfl (by first | exact PV_fieldAddr0 rfl rfl fa78_5 | exact PV_fieldAddr rfl rfl fa78_5) hs5 ?_
      refine TW.s rfl rfl rfl rfl (PV_loadM1 rfl ag22 rfl m2 hr) hs5 ?_
      refine TW.p rfl rfl rfl rfl (PV_move rfl rfl) hs5 ?_
      refine TW.q rfl rfl rfl rfl (PV_loadMA rfl ag26 sz26 rfl m0 (by rw [length_tcells]; decide) (part_whole (length_tcells _))) hs5 (fun _ => hs5) ?_
      refine TW.qn rfl rfl rfl rfl (T := fun _ => True) (PV_indexAddr (i := i) rfl Tryz.underlying22 sz26 rfl rfl rfl (by omega)) trivial (by kernel_rfl) ?_
      refine TW.en0 rfl rfl rfl (by kernel_rfl) (EF_storeP (cs := lcells K ++ zs) rfl rfl rfl (by rw [htl]; exact sz26) (one1_tcells t) (by rw [htl, hcap]; omega) (set_cells hin) hs5 (by first | exact u0 | exact u1 | exact u2 | exact u3 | exact u4 | exact u5 | exact u0.app | exact u1.app | exact u2.app | exact u3.app)) ?_
      rintro r6 w6 hs6
      refine TW.done (cut_end (F := (fun _ : Unit => [])) (J := (fun _ w => ∃ K' l' Ll', PubR K t 0 K' ∧ OwnS 26 37 l' (lcells K') Ll' ∧ Sat G (Ll' ++ (rb, rc.set 55 l', 78) :: R) I w)) () ?_ ?_)
      · repeat first | exact Sub.nil | refine Sub.cons rfl ?_
      · exact ⟨K.set i t, _, [(b, lcells (K.set i t) ++ zs, 26)], .inr ⟨hsolo, i, hi, hlo, hhi, .inl ⟨h2, rfl, rfl⟩⟩, .inr ⟨b, K.length, c, zs, rfl, by rw [length_lcells, List.length_set], rfl, by rw [List.length_append, length_lcells, List.length_set, ← length_lcells, ← List.length_append]; exact hcap, hle⟩, by rw [set_self hr]; exact hs6.tail⟩
    ·
      repeat (first | refine W.seq ?_ | refine W.region ?_)
      refine RL.p rfl rfl rfl (PV_move rfl rfl) ?_
      refine RL.p rfl rfl rfl (PV_nilCheckP rfl rfl) ?_
      refine RL.p rfl rfl rfl (by first | exact PV_fieldAddr0 rfl rfl fa78_5 | exact PV_fieldAddr rfl rfl fa78_5) ?_
      refine RL.s rfl rfl rfl (PV_loadM1 rfl ag22 rfl (.tail _ (mapp m0)) hr) hs4 ?_
      refine RL.p rfl rfl rfl (PV_len rfl Tryz.underlying22 rfl) ?_
      refine RL.p rfl rfl rfl (PV_geq rfl rfl rfl) ?_
      refine RL.p rfl rfl rfl (PV_assign rfl rfl) ?_
      refine RL.done (nxt ?_)
      repeat (first | refine W.seq ?_ | refine W.region ?_)
      refine W.cond rfl (fun h3 => ?_) (fun h3 => ?_)
      ·
        repeat (first | refine W.seq ?_ | refine W.region ?_)
        refine RL.p rfl rfl rfl (PV_assign rfl rfl) ?_
        refine RL.done (nxt ?_)
        repeat (first | refine W.seq ?_ | refine W.region ?_)
        exact W.ret (ret_tmp rfl rfl ⟨_, rfl, 12, K, _, Ll, rfl, .inr ⟨hsolo, i, hi, hlo, hhi, .inr (.inl ⟨h2, by have := of_decide_eq_true h3; omega, rfl, rfl⟩)⟩, hol, by rw [set_self hr]; exact hs4.tail⟩)
      repeat (first | refine W.seq ?_ | refine W.region ?_)
      refine W.drawsH hs4.dropu [(0, true), (1, true), (2, true), (3, true), (4, true), (5, true), (6, false), (7, false), (8, false), (9, false), (10, false), (11, false)] mixed (by kernel_rfl) (by kernel_rfl) ?_
      have hs5 := hs4.drew
      refine TW.p rfl rfl rfl rfl (PV_move rfl rfl) (hs5.dropu) ?_
      refine TW.p rfl rfl rfl rfl (PV_move rfl rfl) (hs5.dropu) ?_
      refine TW.p rfl rfl rfl rfl (PV_nilCheckP rfl rfl) (hs5.dropu) ?_
      refine TW.p rfl rfl rfl rfl (by first | exact PV_fieldAddr0 rfl rfl fa78_5 | exact PV_fieldAddr rfl rfl fa78_5) (hs5.dropu) ?_
      refine TW.s rfl rfl rfl rfl (PV_loadM1 rfl ag22 rfl m1 hr) (hs5.dropu) ?_
      refine TW.p rfl rfl rfl rfl (PV_move rfl rfl) (hs5.dropu) ?_
      refine TW.q rfl rfl rfl rfl (PV_loadMA rfl ag26 sz26 rfl m0 (by rw [length_tcells]; decide) (part_whole (length_tcells _))) hs5 (fun _ => (hs5.dropu)) ?_
      refine TW.e rfl rfl rfl rfl (EF_bs1a rfl el22 rfl htl (by decide) hs5) ?_
      rintro r6 w6 ⟨b30, rfl, hs6⟩
      refine ⟨(hs6.tail.dropu), ?_⟩
      refine TW.e rfl rfl rfl rfl (K3 rfl fn28 rfl rfl rfl (C28 hi (by omega) hol hs6.mid2)) ?_
      rintro r7 w7 ⟨Lq, hoq, hs7⟩
      refine ⟨(hs7.drop), ?_⟩
      refine TW.qn rfl rfl rfl rfl (T := fun _ => True) (PV_nilCheckP rfl rfl) trivial (by kernel_rfl) ?_
      refine TW.qn rfl rfl rfl rfl (T := fun _ => True) (by first | exact PV_fieldAddr0 rfl rfl fa78_5 | exact PV_fieldAddr rfl rfl fa78_5) trivial (by kernel_rfl) ?_
      refine TW.en0 rfl rfl rfl (by kernel_rfl) (EF_storeC (cs := rc) rfl rfl rfl sz22 hoq.cell (by rw [hrl]; decide) rfl hs7 (by first | exact u0 | exact u1 | exact u2 | exact u3 | exact u4 | exact u5 | exact u0.app | exact u1.app | exact u2.app | exact u3.app)) ?_
      rintro r8 w8 hs8
      refine TW.done (cut_end (F := (fun _ : Unit => [])) (J := (fun _ w => ∃ K' l' Ll', PubR K t 0 K' ∧ OwnS 26 37 l' (lcells K') Ll' ∧ Sat G (Ll' ++ (rb, rc.set 55 l', 78) :: R) I w)) () ?_ ?_)
      · repeat first | exact Sub.nil | refine Sub.cons rfl ?_
      · exact ⟨_, _, Lq, .inr ⟨hsolo, i, hi, hlo, hhi, .inr (.inr ⟨h2, by have := of_decide_eq_false h3; omega, rfl, rfl⟩)⟩, hoq, hs8.del (Del.app x0)⟩
  rintro _ w104 ⟨K', l', Ll', hp, ho, hs104⟩
  refine nxt ?_
  repeat (first | refine W.seq ?_ | refine W.region ?_)
  refine RL.p rfl rfl rfl (PV_assign rfl rfl) ?_
  refine RL.done (nxt ?_)
  repeat (first | refine W.seq ?_ | refine W.region ?_)
  exact W.ret (ret_tmp rfl rfl ⟨_, rfl, 0, K', l', Ll', rfl, hp, ho, hs104⟩)

theorem C14 {rb : Nat} {rc : List Value} {l : Value} {K : List Tgt} {a b : ByteArray} {Ll R : List Chunk} (hrl : rc.length = 64) (hr : rc[55]? = some l) (hK : K.length ≤ 2 ^ 10) (hol : OwnS 26 37 l (lcells K) Ll) (hs : Sat G (Ll ++ (rb, rc, 78) :: R) I w) :
    Calls Tryz.prog 14 #[ptr rb 0, .string a, .string b] w (Ret fun r w' => ∃ e K' l' Ll', r = .int .i64 e ∧ RemR K (remT a b) e K' ∧ OwnS 26 37 l' (lcells K') Ll' ∧ Sat G (Ll' ++ (rb, rc.set 55 l', 78) :: R) I w') := by
  obtain ⟨A, c, rfl, hc⟩ := hol.shape (length_lcells K) (by decide)
  refine enter3 Tryz.func14 rfl Tryz.ntmps14 rfl ?_
  repeat (first | refine W.seq ?_ | refine W.region ?_)
  refine RL.p rfl rfl rfl (PV_assign rfl rfl) ?_
  refine RL.done (nxt ?_)
  repeat (first | refine W.seq ?_ | refine W.region ?_)
  refine RL.p rfl rfl rfl (PV_move rfl rfl) ?_
  refine RL.p rfl rfl rfl (PV_eqnil rfl Tryz.underlying27 rfl rfl) ?_
  refine RL.done (nxt ?_)
  repeat (first | refine W.seq ?_ | refine W.region ?_)
  refine W.cond rfl (fun h1 => ?_) (fun h1 => ?_)
  · cases h1
  refine W.skip (nxt ?_)
  repeat (first | refine W.seq ?_ | refine W.region ?_)
  refine RL.p rfl rfl rfl (PV_move rfl rfl) ?_
  refine RL.p rfl rfl rfl (PV_nilCheckP rfl rfl) ?_
  refine RL.p rfl rfl rfl (by first | exact PV_fieldAddr0 rfl rfl fa78_5 | exact PV_fieldAddr rfl rfl fa78_5) ?_
  refine RL.s rfl rfl rfl (PV_loadM1 rfl ag22 rfl (mapp m0) hr) hs ?_
  refine RL.p rfl rfl rfl (PV_move rfl rfl) ?_
  refine RL.p rfl rfl rfl (PV_move rfl rfl) ?_
  refine RL.p rfl rfl rfl (PV_buildS (cs := tcells (remT a b)) rfl pl26 zr26 rfl fill_rem) ?_
  refine RL.e rfl rfl rfl (K3 rfl fn26 rfl rfl rfl (C26 (t := remT a b) (by omega) (hol.toM (length_lcells K) (by decide)) hs)) ?_
  rintro r1 w1 ⟨⟨i, hi, rfl, hlo, hhi⟩, hs1⟩
  refine RL.p rfl rfl rfl (PV_move rfl rfl) ?_
  refine RL.p rfl rfl rfl (PV_extract rfl rfl rfl) ?_
  refine RL.p rfl rfl rfl (PV_extract rfl rfl rfl) ?_
  refine RL.p rfl rfl rfl (PV_assign rfl rfl) ?_
  refine RL.p rfl rfl rfl (PV_assign rfl rfl) ?_
  refine RL.done (nxt ?_)
  repeat (first | refine W.seq ?_ | refine W.region ?_)
  refine RL.p rfl rfl rfl (PV_move rfl rfl) ?_
  refine RL.p rfl rfl rfl (PV_not rfl rfl) ?_
  refine RL.done (nxt ?_)
  repeat (first | refine W.seq ?_ | refine W.region ?_)
  refine W.cond rfl (fun h2 => ?_) (fun h2 => ?_)
  ·
    repeat (first | refine W.seq ?_ | refine W.region ?_)
    refine RL.p rfl rfl rfl (PV_assign rfl rfl) ?_
    refine RL.done (nxt ?_)
    repeat (first | refine W.seq ?_ | refine W.region ?_)
    exact W.ret (ret_tmp rfl rfl ⟨_, rfl, 9, K, _, Ll, rfl, ⟨i, hi, hlo, hhi, .inr ⟨by simpa using h2, rfl, rfl⟩⟩, hol, by rw [set_self hr]; exact hs1⟩)
  have hf : foundB K (remT a b) i = true := by simpa using h2
  have hin := found_lt hf
  refine  W.skip (nxt ?_)
  repeat (first | refine W.seq ?_ | refine W.region ?_)
  refine RL.p rfl rfl rfl (PV_move rfl rfl) ?_
  refine RL.p rfl rfl rfl (PV_move rfl rfl) ?_
  refine RL.p rfl rfl rfl (PV_nilCheckP rfl rfl) ?_
  refine RL.p rfl rfl rfl (by first | exact PV_fieldAddr0 rfl rfl fa78_5 | exact PV_fieldAddr rfl rfl fa78_5) ?_
  refine RL.s rfl rfl rfl (PV_loadM1 rfl ag22 rfl (mapp m0) hr) hs1 ?_
  refine RL.p rfl rfl rfl (PV_move rfl rfl) ?_
  refine RL.p rfl rfl rfl (PV_move rfl rfl) ?_
  refine RL.p rfl rfl rfl (PV_add rfl rfl rfl (by omega)) ?_
  refine RL.e rfl rfl rfl (K3 rfl fn31 rfl rfl rfl (C31 hin (by omega) hol hs1)) ?_
  rintro r2 w2 ⟨Lq, hoq, hs2⟩
  refine RL.p rfl rfl rfl (PV_nilCheckP rfl rfl) ?_
  refine RL.p rfl rfl rfl (by first | exact PV_fieldAddr0 rfl rfl fa78_5 | exact PV_fieldAddr rfl rfl fa78_5) ?_
  refine RL.e0 rfl rfl (EF_storeC (cs := rc) rfl rfl rfl sz22 hoq.cell (by rw [hrl]; decide) rfl hs2 (by first | exact u0 | exact u1 | exact u2 | exact u3 | exact u4 | exact u5 | exact u0.app | exact u1.app | exact u2.app | exact u3.app)) ?_
  rintro r3 w3 hs3
  refine RL.done (nxt ?_)
  repeat (first | refine W.seq ?_ | refine W.region ?_)
  refine RL.p rfl rfl rfl (PV_assign rfl rfl) ?_
  refine RL.done (nxt ?_)
  repeat (first | refine W.seq ?_ | refine W.region ?_)
  exact W.ret (ret_tmp rfl rfl ⟨_, rfl, 0, _, _, Lq, rfl, ⟨i, hi, hlo, hhi, .inl ⟨hf, rfl, rfl⟩⟩, hoq, hs3⟩)

end Go.Proofs.YtecbpmgfikgoaaaGreatDoor
