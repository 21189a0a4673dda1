/- Walks of functions 10 19 12: what each call gives back, and that it writes nothing of anybody else's. Conditions: as each theorem says. -/
import Derived.Test.YtecbpmgfikgoaaaGreatDoorV2
import Derived.Test.YtecbpmgfikgoaaaGreatDoorA0
import Derived.Test.YtecbpmgfikgoaaaGreatDoorU22
set_option linter.unusedVariables false
set_option linter.unusedSimpArgs false
set_option maxRecDepth 8000
set_option maxHeartbeats 4000000
namespace Go.Proofs.YtecbpmgfikgoaaaGreatDoor
open Go Go.RowKit
variable {G w : World} {M : List Chunk} {I : Imm}

theorem Mem.sub {bb off p n : Nat} {cs r : List Value} (h : Mem G M I bb off cs) (hp : part cs p n = r) (hl : p + n ≤ cs.length) : Mem G M I bb (off + p) r := fun w hs => by
  obtain ⟨d, T, fr, h1, h2, h3⟩ := h w hs
  have hr : r.length = n := by rw [← hp, part, List.length_take, List.length_drop]; omega
  refine ⟨d, T, fr, h1, by omega, ?_⟩
  rw [hr, ← hp, ← h3]
  simp only [part, List.drop_take, List.take_take, List.drop_drop]
  congr 1
  omega
theorem ac_0 {a : ActT} : (acells a)[0]? = some (.int .i64 a.kind) := rfl
theorem ac_t {a : ActT} : part (acells a) 1 37 = tcells a.t := by
  simp only [part, acells, List.drop_succ_cons, List.drop_zero]
  rw [List.take_append_of_le_length (by rw [length_tcells]; exact Nat.le_refl _), List.take_of_length_le (by rw [length_tcells]; exact Nat.le_refl _)]
theorem length_aflat (L : List ActT) : (L.flatMap acells).length = L.length * 40 := by
  induction L with
  | nil => rfl
  | cons a L ih => rw [List.flatMap_cons, List.length_append, length_acells, ih, List.length_cons]; omega
theorem part_aflat {L : List ActT} {i : Nat} {a : ActT} (h : L[i]? = some a) : part (L.flatMap acells) (i * 40) 40 = acells a := by
  have hi := (List.getElem?_eq_some_iff.1 h).1
  have hL : L = L.take i ++ a :: L.drop (i + 1) := by
    have := (List.getElem?_eq_some_iff.1 h).2
    rw [← this, List.getElem_cons_drop, List.take_append_drop]
  have hl : ((L.take i).flatMap acells).length = i * 40 := by rw [length_aflat, List.length_take, Nat.min_eq_left (by omega)]
  conv => lhs; rw [hL]
  rw [List.flatMap_append, List.flatMap_cons, part, ← hl, List.drop_left, List.take_append_of_le_length (by rw [length_acells]; exact Nat.le_refl _), List.take_of_length_le (by rw [length_acells]; exact Nat.le_refl _)]
/-- One act among those that came in. -/
theorem act_mem {bb off i : Nat} {L : List ActT} {a : ActT} (h : Mem G M I bb off (L.flatMap acells)) (hi : L[i]? = some a) : Mem G M I bb (off + i * 40) (acells a) :=
  h.sub (part_aflat hi) (by have := (List.getElem?_eq_some_iff.1 hi).1; rw [length_aflat]; omega)
theorem act_tgt {bb off i : Nat} {L : List ActT} {a : ActT} (h : Mem G M I bb off (L.flatMap acells)) (hi : L[i]? = some a) : Mem G M I bb (off + i * 40 + 1) (tcells a.t) :=
  (act_mem h hi).sub ac_t (by rw [length_acells]; decide)
def smallT (t : Tgt) : Prop := t.name.size ≤ 3000 ∧ t.hw.size ≤ 3000 ∧ t.ecu.size ≤ 3000
def wideT (t : Tgt) : Prop := t.name.size ≤ reachBytes ∧ t.hw.size ≤ reachBytes ∧ t.ecu.size ≤ reachBytes
theorem smallT.ok {t : Tgt} (h : smallT t) : t.ok := ⟨by have := h.1; omega, by have := h.2.1; omega, by have := h.2.2; omega⟩
def befB (a b : Tgt) : Bool := if (a.name.toList == b.name.toList) = true then Op.bytesLess a.ecu.toList b.ecu.toList else Op.bytesLess a.name.toList b.name.toList

theorem C10 {a b : Tgt} (hs : Sat G M I w) : Calls Tryz.prog 10 #[aggL (tcells a), aggL (tcells b)] w (Ret fun r w' => r = .bool (befB a b) ∧ Sat G M I w') := by
  refine enter2 Tryz.func10 rfl Tryz.ntmps10 rfl ?_
  repeat (first | refine W.seq ?_ | refine W.region ?_)
  refine RL.e rfl rfl rfl (EF_boxA rfl rfl hs) ?_
  rintro r1 w1 ⟨b2, rfl, hs1⟩
  refine RL.e rfl rfl rfl (EF_boxA rfl rfl hs1) ?_
  rintro r2 w2 ⟨b3, rfl, hs2⟩
  refine RL.p rfl rfl rfl (PV_assign rfl rfl) ?_
  refine RL.done (nxt ?_)
  repeat (first | refine W.seq ?_ | refine W.region ?_)
  refine RL.p rfl rfl rfl (by first | exact PV_fieldAddr0 rfl rfl fa26_0 | exact PV_fieldAddr rfl rfl fa26_0) ?_
  refine RL.s rfl rfl rfl (PV_loadM1 rfl ag9 rfl (by first | exact m0 | exact m1 | exact m2 | exact m3 | exact m4 | exact m5 | exact mapp m0 | exact mapp m1 | exact mapp m2 | exact mapp m3 | exact hm | exact .tail _ hm | exact .tail _ (.tail _ hm)) (by first | exact w32_get (by omega) | exact wcells_get (by omega) | exact bc_get (by omega) | exact tc_34 | exact tc_35 | exact tc_36 | exact tc_0 | exact tc_1 | rfl)) hs2 ?_
  refine RL.p rfl rfl rfl (by first | exact PV_fieldAddr0 rfl rfl fa26_0 | exact PV_fieldAddr rfl rfl fa26_0) ?_
  refine RL.s rfl rfl rfl (PV_loadM1 rfl ag9 rfl (by first | exact m0 | exact m1 | exact m2 | exact m3 | exact m4 | exact m5 | exact mapp m0 | exact mapp m1 | exact mapp m2 | exact mapp m3 | exact hm | exact .tail _ hm | exact .tail _ (.tail _ hm)) (by first | exact w32_get (by omega) | exact wcells_get (by omega) | exact bc_get (by omega) | exact tc_34 | exact tc_35 | exact tc_36 | exact tc_0 | exact tc_1 | rfl)) hs2 ?_
  refine RL.p rfl rfl rfl (PV_nes rfl rfl rfl) ?_
  refine RL.done (nxt ?_)
  repeat (first | refine W.seq ?_ | refine W.region ?_)
  refine W.cond rfl (fun h1 => ?_) (fun h1 => ?_)
  ·
    repeat (first | refine W.seq ?_ | refine W.region ?_)
    refine RL.p rfl rfl rfl (by first | exact PV_fieldAddr0 rfl rfl fa26_0 | exact PV_fieldAddr rfl rfl fa26_0) ?_
    refine RL.s rfl rfl rfl (PV_loadM1 rfl ag9 rfl (by first | exact m0 | exact m1 | exact m2 | exact m3 | exact m4 | exact m5 | exact mapp m0 | exact mapp m1 | exact mapp m2 | exact mapp m3 | exact hm | exact .tail _ hm | exact .tail _ (.tail _ hm)) (by first | exact w32_get (by omega) | exact wcells_get (by omega) | exact bc_get (by omega) | exact tc_34 | exact tc_35 | exact tc_36 | exact tc_0 | exact tc_1 | rfl)) hs2 ?_
    refine RL.p rfl rfl rfl (by first | exact PV_fieldAddr0 rfl rfl fa26_0 | exact PV_fieldAddr rfl rfl fa26_0) ?_
    refine RL.s rfl rfl rfl (PV_loadM1 rfl ag9 rfl (by first | exact m0 | exact m1 | exact m2 | exact m3 | exact m4 | exact m5 | exact mapp m0 | exact mapp m1 | exact mapp m2 | exact mapp m3 | exact hm | exact .tail _ hm | exact .tail _ (.tail _ hm)) (by first | exact w32_get (by omega) | exact wcells_get (by omega) | exact bc_get (by omega) | exact tc_34 | exact tc_35 | exact tc_36 | exact tc_0 | exact tc_1 | rfl)) hs2 ?_
    refine RL.p rfl rfl rfl (PV_lts rfl rfl rfl) ?_
    refine RL.p rfl rfl rfl (PV_assign rfl rfl) ?_
    refine RL.done (nxt ?_)
    repeat (first | refine W.seq ?_ | refine W.region ?_)
    exact W.ret (ret_tmp rfl rfl ⟨_, rfl, (by simp [befB] at *; simp [*]), hs2.tail.tail⟩)
  refine W.skip (nxt ?_)
  repeat (first | refine W.seq ?_ | refine W.region ?_)
  refine RL.p rfl rfl rfl (by first | exact PV_fieldAddr0 rfl rfl fa26_5 | exact PV_fieldAddr rfl rfl fa26_5) ?_
  refine RL.s rfl rfl rfl (PV_loadM1 rfl ag9 rfl (by first | exact m0 | exact m1 | exact m2 | exact m3 | exact m4 | exact m5 | exact mapp m0 | exact mapp m1 | exact mapp m2 | exact mapp m3 | exact hm | exact .tail _ hm | exact .tail _ (.tail _ hm)) (by first | exact w32_get (by omega) | exact wcells_get (by omega) | exact bc_get (by omega) | exact tc_34 | exact tc_35 | exact tc_36 | exact tc_0 | exact tc_1 | rfl)) hs2 ?_
  refine RL.p rfl rfl rfl (by first | exact PV_fieldAddr0 rfl rfl fa26_5 | exact PV_fieldAddr rfl rfl fa26_5) ?_
  refine RL.s rfl rfl rfl (PV_loadM1 rfl ag9 rfl (by first | exact m0 | exact m1 | exact m2 | exact m3 | exact m4 | exact m5 | exact mapp m0 | exact mapp m1 | exact mapp m2 | exact mapp m3 | exact hm | exact .tail _ hm | exact .tail _ (.tail _ hm)) (by first | exact w32_get (by omega) | exact wcells_get (by omega) | exact bc_get (by omega) | exact tc_34 | exact tc_35 | exact tc_36 | exact tc_0 | exact tc_1 | rfl)) hs2 ?_
  refine RL.p rfl rfl rfl (PV_lts rfl rfl rfl) ?_
  refine RL.p rfl rfl rfl (PV_assign rfl rfl) ?_
  refine RL.done (nxt ?_)
  repeat (first | refine W.seq ?_ | refine W.region ?_)
  exact W.ret (ret_tmp rfl rfl ⟨_, rfl, (by simp [befB] at *; simp [*]), hs2.tail.tail⟩)

theorem C19 {a b : Value} {K : List Tgt} (hK : K.length ≤ 2 ^ 40) (ha : SlM G M I 37 a K.length (lcells K)) (hb : SlM G M I 37 b K.length (lcells K)) (hs : Sat G M I w) : Calls Tryz.prog 19 #[a, b] w (Ret fun r w' => r = .bool true ∧ Sat G M I w') := by
  obtain ⟨A, c, rfl, hc⟩ := ha.shape
  obtain ⟨B, d, rfl, hd⟩ := hb.shape
  refine enter2 Tryz.func19 rfl Tryz.ntmps19 rfl ?_
  repeat (first | refine W.seq ?_ | refine W.region ?_)
  refine RL.p rfl rfl rfl (PV_assign rfl rfl) ?_
  refine RL.done (nxt ?_)
  repeat (first | refine W.seq ?_ | refine W.region ?_)
  refine RL.p rfl rfl rfl (PV_move rfl rfl) ?_
  refine RL.p rfl rfl rfl (PV_len rfl Tryz.underlying22 rfl) ?_
  refine RL.p rfl rfl rfl (PV_move rfl rfl) ?_
  refine RL.p rfl rfl rfl (PV_len rfl Tryz.underlying22 rfl) ?_
  refine RL.p rfl rfl rfl (PV_nei rfl rfl rfl) ?_
  refine RL.done (nxt ?_)
  repeat (first | refine W.seq ?_ | refine W.region ?_)
  refine W.cond rfl (fun h1 => ?_) (fun h1 => ?_)
  · exact absurd rfl (of_decide_eq_true h1)
  refine W.skip (nxt ?_)
  repeat (first | refine W.seq ?_ | refine W.region ?_)
  refine RL.p rfl rfl rfl (PV_assign rfl rfl) ?_
  refine RL.done (nxt ?_)
  repeat (first | refine W.seq ?_ | refine W.region ?_)
  refine W.block ?_
  repeat (first | refine W.seq ?_ | refine W.region ?_)
  refine W.loop (F := fun i : Nat => [(5, .int .i64 (i : Int)), (0, .slice A K.length c), (1, .slice B K.length d)]) (J := fun i w => i ≤ K.length ∧ Sat G M I w) (m := fun i => K.length - i) 0 (by repeat first | exact Sub.nil | refine Sub.cons rfl ?_) ⟨by omega, hs⟩ ?_
  rintro i w1 ⟨hi, hs1⟩
  repeat (first | refine W.seq ?_ | refine W.region ?_)
  refine RL.p rfl rfl rfl (PV_move rfl rfl) ?_
  refine RL.p rfl rfl rfl (PV_move rfl rfl) ?_
  refine RL.p rfl rfl rfl (PV_len rfl Tryz.underlying22 rfl) ?_
  refine RL.p rfl rfl rfl (PV_lss rfl rfl rfl) ?_
  refine RL.done (nxt ?_)
  repeat (first | refine W.seq ?_ | refine W.region ?_)
  refine W.cond rfl (fun h2 => ?_) (fun h2 => ?_)
  ·
    have hin : i < K.length := by have := of_decide_eq_true h2; omega
    obtain ⟨b1, o1, c', he, _, hm1⟩ := ha.elem (by omega)
    obtain ⟨rfl, rfl⟩ : A = some ⟨b1, o1, none⟩ ∧ c = c' := by simpa using he
    obtain ⟨b2, o2, d', he, _, hm2⟩ := hb.elem (by omega)
    obtain ⟨rfl, rfl⟩ : B = some ⟨b2, o2, none⟩ ∧ d = d' := by simpa using he
    obtain ⟨x, hx⟩ : ∃ x, K[i]? = some x := ⟨_, List.getElem?_eq_getElem hin⟩
    have hl37 : i * 37 + 37 ≤ (lcells K).length := by rw [length_lcells]; omega
    refine  W.skip (nxt ?_)
    repeat (first | refine W.seq ?_ | refine W.region ?_)
    refine W.block ?_
    repeat (first | refine W.seq ?_ | refine W.region ?_)
    refine W.drawsH hs1 [(0, true), (1, true), (2, true), (3, true), (4, true), (5, false), (6, false), (7, false), (8, false)] mixed (by kernel_rfl) (by kernel_rfl) ?_
    have hs2 := hs1.drew
    refine TW.p rfl rfl rfl rfl (PV_move rfl rfl) hs2 ?_
    refine TW.p rfl rfl rfl rfl (PV_move rfl rfl) hs2 ?_
    refine TW.p rfl rfl rfl rfl (PV_indexAddr (i := i) rfl Tryz.underlying22 sz26 rfl rfl rfl (by omega)) hs2 ?_
    refine TW.s rfl rfl rfl rfl (PV_loadMemA (j := i * 37) rfl ag26 sz26 rfl (fun _ h => h) hm1 hl37 (part_lcells hx)) hs2 ?_
    refine TW.p rfl rfl rfl rfl (PV_move rfl rfl) hs2 ?_
    refine TW.q rfl rfl rfl rfl (T := fun _ => True) (PV_move rfl rfl) trivial (fun _ => hs2) ?_
    refine TW.q rfl rfl rfl rfl (T := fun _ => True) (PV_indexAddr (i := i) rfl Tryz.underlying22 sz26 rfl rfl rfl (by omega)) trivial (fun _ => hs2) ?_
    refine TW.q rfl rfl rfl rfl (PV_loadMemA (j := i * 37) rfl ag26 sz26 rfl (fun _ h => h) hm2 hl37 (part_lcells hx)) hs2 (fun _ => hs2) ?_
    refine TW.q rfl rfl rfl rfl (T := fun _ => True) (PV_neT rfl rfl rfl) trivial (fun _ => hs2) ?_
    refine TW.done (nxt ?_)
    repeat (first | refine W.seq ?_ | refine W.region ?_)
    refine W.cond rfl (fun h3 => ?_) (fun h3 => ?_)
    · simp [eqT_self] at h3
    refine W.skip (nxt ?_)
    repeat (first | refine W.seq ?_ | refine W.region ?_)
    refine RL.p rfl rfl rfl (PV_move rfl rfl) ?_
    refine RL.p rfl rfl rfl (PV_add rfl rfl rfl (by omega)) ?_
    refine RL.p rfl rfl rfl (PV_assign rfl rfl) ?_
    refine RL.done (round_end (i + 1) ?_ ?_ ?_)
    · repeat first | exact Sub.nil | refine Sub.cons rfl ?_
    · exact ⟨by omega, hs2⟩
    · first | omega | (dsimp only; omega)
  repeat (first | refine W.seq ?_ | refine W.region ?_)
  refine W.exit (nxt ?_)
  repeat (first | refine W.seq ?_ | refine W.region ?_)
  refine RL.p rfl rfl rfl (PV_assign rfl rfl) ?_
  refine RL.done (nxt ?_)
  repeat (first | refine W.seq ?_ | refine W.region ?_)
  exact W.ret (ret_tmp rfl rfl ⟨_, rfl, rfl, hs1⟩)

theorem C12 {v : Value} {L : List ActT} (hL : L.length ≤ 2 ^ 50) (hw : ∀ a, a ∈ L → wideT a.t) (hv : SlM G M I 40 v L.length (L.flatMap acells)) (hs : Sat G M I w) : Calls Tryz.prog 12 #[v] w (Ret fun r w' => (∃ q, r = .bool q ∧ (q = false → ∀ i a, i < 24 → L[i]? = some a → smallT a.t)) ∧ Sat G M I w') := by
  obtain ⟨A, c, rfl, hc⟩ := hv.shape
  refine enter1 Tryz.func12 rfl Tryz.ntmps12 rfl ?_
  repeat (first | refine W.seq ?_ | refine W.region ?_)
  refine RL.p rfl rfl rfl (PV_assign rfl rfl) ?_
  refine RL.done (nxt ?_)
  repeat (first | refine W.seq ?_ | refine W.region ?_)
  refine RL.p rfl rfl rfl (PV_assign rfl rfl) ?_
  refine RL.done (nxt ?_)
  repeat (first | refine W.seq ?_ | refine W.region ?_)
  refine RL.p rfl rfl rfl (PV_assign rfl rfl) ?_
  refine RL.done (nxt ?_)
  repeat (first | refine W.seq ?_ | refine W.region ?_)
  refine W.block ?_
  repeat (first | refine W.seq ?_ | refine W.region ?_)
  refine W.loop (F := fun z : Nat × Nat => [(4, .int .i64 (z.1 : Int)), (3, .int .i64 (z.2 : Int)), (0, .slice A L.length c)]) (J := fun z w => z.1 ≤ 24 ∧ z.1 ≤ L.length ∧ z.2 ≤ 3000 ∧ (∀ j a, j < z.1 → L[j]? = some a → smallT a.t) ∧ Sat G M I w) (m := fun z => 24 - z.1) (0, 0) (by repeat first | exact Sub.nil | refine Sub.cons rfl ?_) ⟨by omega, by omega, by omega, fun j a h => absurd h (by omega), hs⟩ ?_
  rintro ⟨i, q⟩ w1 ⟨hi24, hi, hq, hsm, hs1⟩
  repeat refine W.seq ?_
  refine W.cut (fun b : Bool => [(12, .bool b), (4, .int .i64 (i : Int)), (3, .int .i64 (q : Int)), (0, .slice A L.length c)]) (fun b w => (b = true → i < L.length ∧ i < 24) ∧ (b = false → L.length ≤ i ∨ 24 ≤ i) ∧ Sat G M I w) ?_ ?_
  ·
    refine W.region ?_
    refine RL.p rfl rfl rfl (PV_move rfl rfl) ?_
    refine RL.p rfl rfl rfl (PV_move rfl rfl) ?_
    refine RL.p rfl rfl rfl (PV_len rfl Tryz.underlying35 rfl) ?_
    refine RL.p rfl rfl rfl (PV_lss rfl rfl rfl) ?_
    refine RL.p rfl rfl rfl (PV_move rfl rfl) ?_
    refine RL.split 9 rfl (fun g1 => ?_) (fun g1 => ?_)
    ·
      refine RL.gp rfl rfl rfl rfl g1 rfl rfl rfl (PV_move rfl rfl) ?_
      refine RL.gp rfl rfl rfl rfl g1 rfl rfl rfl (PV_lss rfl rfl rfl) ?_
      refine RL.p rfl rfl rfl (PV_pickT rfl rfl g1 rfl) ?_
      exact RL.done (cut_end (F := (fun b : Bool => [(12, .bool b), (4, .int .i64 (i : Int)), (3, .int .i64 (q : Int)), (0, .slice A L.length c)])) (J := (fun b w => (b = true → i < L.length ∧ i < 24) ∧ (b = false → L.length ≤ i ∨ 24 ≤ i) ∧ Sat G M I w)) _ (by repeat first | exact Sub.nil | refine Sub.cons rfl ?_) (by exact (by first | exact ⟨fun h => ⟨by have := of_decide_eq_true g1; omega, by have := of_decide_eq_true h; omega⟩, fun h => .inr (by have := of_decide_eq_false h; omega), hs1⟩ | exact ⟨fun h => (by cases h), fun _ => .inl (by have := of_decide_eq_false g1; omega), hs1⟩)))
    ·
      refine RL.gk rfl rfl rfl rfl g1 rfl rfl rfl ?_
      refine RL.gk rfl rfl rfl rfl g1 rfl rfl rfl ?_
      refine RL.p rfl rfl rfl (PV_pickF rfl rfl g1 rfl) ?_
      exact RL.done (cut_end (F := (fun b : Bool => [(12, .bool b), (4, .int .i64 (i : Int)), (3, .int .i64 (q : Int)), (0, .slice A L.length c)])) (J := (fun b w => (b = true → i < L.length ∧ i < 24) ∧ (b = false → L.length ≤ i ∨ 24 ≤ i) ∧ Sat G M I w)) _ (by repeat first | exact Sub.nil | refine Sub.cons rfl ?_) (by exact (by first | exact ⟨fun h => ⟨by have := of_decide_eq_true g1; omega, by have := of_decide_eq_true h; omega⟩, fun h => .inr (by have := of_decide_eq_false h; omega), hs1⟩ | exact ⟨fun h => (by cases h), fun _ => .inl (by have := of_decide_eq_false g1; omega), hs1⟩)))
  rintro q24 w101 ⟨hT, hF, hs101⟩
  refine nxt ?_
  repeat (first | refine W.seq ?_ | refine W.region ?_)
  refine W.cond rfl (fun h1 => ?_) (fun h1 => ?_)
  ·
    obtain ⟨hin, hi24'⟩ := hT h1
    obtain ⟨bb, off, c', he, _, hmem⟩ := hv.elem (by omega)
    obtain ⟨rfl, rfl⟩ : A = some ⟨bb, off, none⟩ ∧ c = c' := by simpa using he
    obtain ⟨a, ha⟩ : ∃ x, L[i]? = some x := ⟨_, List.getElem?_eq_getElem hin⟩
    obtain ⟨w1', w2', w3'⟩ := hw a (List.mem_of_getElem? ha)
    have hrb : reachBytes ≤ 2 ^ 47 := by decide
    have htm := act_tgt hmem ha
    dsimp only at hq hsm
    refine  W.skip (nxt ?_)
    repeat (first | refine W.seq ?_ | refine W.region ?_)
    refine W.block ?_
    repeat (first | refine W.seq ?_ | refine W.region ?_)
    refine W.drawsH hs101 [(0, true), (1, true), (2, true), (3, true), (4, true), (5, true), (6, true), (7, true), (8, true), (9, true), (10, true), (11, true), (12, true), (13, true), (14, true), (15, true), (16, true), (17, true), (18, true), (19, false), (20, false), (21, false), (22, false), (23, false), (24, false), (25, false), (26, false)] mixed (by kernel_rfl) (by kernel_rfl) ?_
    have hs102 := hs101.drew
    refine TW.p rfl rfl rfl rfl (PV_move rfl rfl) hs102 ?_
    refine TW.p rfl rfl rfl rfl (PV_add rfl rfl rfl (by omega)) hs102 ?_
    refine TW.p rfl rfl rfl rfl (PV_move rfl rfl) hs102 ?_
    refine TW.p rfl rfl rfl rfl (PV_move rfl rfl) hs102 ?_
    refine TW.p rfl rfl rfl rfl (PV_indexAddr (i := i) rfl Tryz.underlying35 sz53 rfl rfl rfl (by omega)) hs102 ?_
    refine TW.p rfl rfl rfl rfl (by first | exact PV_fieldAddr0 rfl rfl fa53_1 | exact PV_fieldAddr rfl rfl fa53_1) hs102 ?_
    refine TW.p rfl rfl rfl rfl (by first | exact PV_fieldAddr0 rfl rfl fa26_0 | exact PV_fieldAddr rfl rfl fa26_0) hs102 ?_
    refine TW.s rfl rfl rfl rfl (PV_loadMem1 (j := 0) rfl ag9 rfl (fun _ h => h) htm tc_0) hs102 ?_
    refine TW.p rfl rfl rfl rfl (PV_lens rfl Tryz.underlying9 rfl) hs102 ?_
    refine TW.p rfl rfl rfl rfl (PV_add rfl rfl rfl (by omega)) hs102 ?_
    refine TW.p rfl rfl rfl rfl (PV_move rfl rfl) hs102 ?_
    refine TW.p rfl rfl rfl rfl (PV_move rfl rfl) hs102 ?_
    refine TW.p rfl rfl rfl rfl (PV_indexAddr (i := i) rfl Tryz.underlying35 sz53 rfl rfl rfl (by omega)) hs102 ?_
    refine TW.p rfl rfl rfl rfl (by first | exact PV_fieldAddr0 rfl rfl fa53_1 | exact PV_fieldAddr rfl rfl fa53_1) hs102 ?_
    refine TW.p rfl rfl rfl rfl (by first | exact PV_fieldAddr0 rfl rfl fa26_3 | exact PV_fieldAddr rfl rfl fa26_3) hs102 ?_
    refine TW.s rfl rfl rfl rfl (PV_loadMem1 (j := 34) rfl ag9 rfl (fun _ h => h) htm tc_34) hs102 ?_
    refine TW.p rfl rfl rfl rfl (PV_lens rfl Tryz.underlying9 rfl) hs102 ?_
    refine TW.p rfl rfl rfl rfl (PV_add rfl rfl rfl (by omega)) hs102 ?_
    refine TW.p rfl rfl rfl rfl (PV_move rfl rfl) hs102 ?_
    refine TW.q rfl rfl rfl rfl (T := fun _ => True) (PV_move rfl rfl) trivial (fun _ => hs102) ?_
    refine TW.q rfl rfl rfl rfl (T := fun _ => True) (PV_indexAddr (i := i) rfl Tryz.underlying35 sz53 rfl rfl rfl (by omega)) trivial (fun _ => hs102) ?_
    refine TW.q rfl rfl rfl rfl (T := fun _ => True) (by first | exact PV_fieldAddr0 rfl rfl fa53_1 | exact PV_fieldAddr rfl rfl fa53_1) trivial (fun _ => hs102) ?_
    refine TW.q rfl rfl rfl rfl (T := fun _ => True) (by first | exact PV_fieldAddr0 rfl rfl fa26_5 | exact PV_fieldAddr rfl rfl fa26_5) trivial (fun _ => hs102) ?_
    refine TW.q rfl rfl rfl rfl (PV_loadMem1 (j := 36) rfl ag9 rfl (fun _ h => h) htm tc_36) hs102 (fun _ => hs102) ?_
    refine TW.q rfl rfl rfl rfl (T := fun _ => True) (PV_lens rfl Tryz.underlying9 rfl) trivial (fun _ => hs102) ?_
    refine TW.q rfl rfl rfl rfl (T := fun _ => True) (PV_add rfl rfl rfl (by omega)) trivial (fun _ => hs102) ?_
    refine TW.qn rfl rfl rfl rfl (T := fun _ => True) (PV_assign rfl rfl) trivial (by kernel_rfl) ?_
    refine TW.done (nxt ?_)
    repeat (first | refine W.seq ?_ | refine W.region ?_)
    refine RL.p rfl rfl rfl (PV_move rfl rfl) ?_
    refine RL.p rfl rfl rfl (PV_gtr rfl rfl rfl) ?_
    refine RL.done (nxt ?_)
    repeat (first | refine W.seq ?_ | refine W.region ?_)
    refine W.cond rfl (fun h2 => ?_) (fun h2 => ?_)
    ·
      repeat (first | refine W.seq ?_ | refine W.region ?_)
      refine RL.p rfl rfl rfl (PV_assign rfl rfl) ?_
      refine RL.done (nxt ?_)
      repeat (first | refine W.seq ?_ | refine W.region ?_)
      exact W.ret (ret_tmp rfl rfl ⟨_, rfl, ⟨true, rfl, fun h => by cases h⟩, hs102⟩)
    have h2f := of_decide_eq_false h2
    refine W.skip (nxt ?_)
    repeat (first | refine W.seq ?_ | refine W.region ?_)
    refine RL.p rfl rfl rfl (PV_move rfl rfl) ?_
    refine RL.p rfl rfl rfl (PV_add rfl rfl rfl (by omega)) ?_
    refine RL.p rfl rfl rfl (PV_assign rfl rfl) ?_
    refine RL.done (round_end (i + 1, q + 1 + a.t.name.size + a.t.hw.size + a.t.ecu.size) ?_ ?_ ?_)
    · repeat first | exact Sub.nil | refine Sub.cons rfl ?_
    · exact ⟨by dsimp only; omega, by dsimp only; omega, by dsimp only; omega, fun j x hj hx => by
        by_cases hji : j = i
        · subst hji
          rw [ha] at hx
          cases hx
          have := of_decide_eq_false h2
          exact ⟨by omega, by omega, by omega⟩
        · exact hsm j x (by dsimp only at hj; omega) hx, hs102⟩
    · first | omega | (dsimp only; omega)
  repeat (first | refine W.seq ?_ | refine W.region ?_)
  refine W.exit (nxt ?_)
  repeat (first | refine W.seq ?_ | refine W.region ?_)
  refine RL.p rfl rfl rfl (PV_assign rfl rfl) ?_
  refine RL.done (nxt ?_)
  repeat (first | refine W.seq ?_ | refine W.region ?_)
  exact W.ret (ret_tmp rfl rfl ⟨_, rfl, ⟨false, rfl, fun _ j x hj hx => hsm j x (by have := (List.getElem?_eq_some_iff.1 hx).1; have := hF h1; dsimp only; omega) hx⟩, hs101⟩)

end Go.Proofs.YtecbpmgfikgoaaaGreatDoor
