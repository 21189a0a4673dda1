/- How targets stand: the order of the program and that of the reference are one; what Publish and Remove leave stands in order. Conditions: none. -/
import Derived.Test.YtecbpmgfikgoaaaGreatDoorU23
set_option linter.unusedVariables false
set_option linter.unusedSimpArgs false
namespace Go.Proofs.YtecbpmgfikgoaaaGreatDoor
open Go Go.RowKit
theorem cmp_lt : ∀ (x y : List UInt8), Lib.compareBytes x y < 0 ↔ Op.bytesLess x y = true
  | [], [] => by simp [Lib.compareBytes, Op.bytesLess]
  | [], _ :: _ => by simp [Lib.compareBytes, Op.bytesLess]
  | _ :: _, [] => by simp [Lib.compareBytes, Op.bytesLess]
  | a :: x, b :: y => by
    have ih := cmp_lt x y
    simp only [Lib.compareBytes, Op.bytesLess]
    by_cases h : a < b
    · simp [h]
    · by_cases h2 : b < a
      · have : ¬ a = b := fun e => by subst e; exact UInt8.lt_irrefl _ h2
        simp [h, h2, this]
      · have : a = b := UInt8.le_antisymm (UInt8.not_lt.1 h2) (UInt8.not_lt.1 h)
        subst this
        simp [h, ih]
theorem cmp_zero : ∀ (x y : List UInt8), Lib.compareBytes x y = 0 ↔ x = y
  | [], [] => by simp [Lib.compareBytes]
  | [], _ :: _ => by simp [Lib.compareBytes]
  | _ :: _, [] => by simp [Lib.compareBytes]
  | a :: x, b :: y => by
    have ih := cmp_zero x y
    simp only [Lib.compareBytes]
    by_cases h : a < b
    · have : ¬ a = b := fun e => by subst e; exact UInt8.lt_irrefl _ h
      simp [h, this]
    · by_cases h2 : b < a
      · have : ¬ a = b := fun e => by subst e; exact UInt8.lt_irrefl _ h2
        simp [h, h2, this]
      · have : a = b := UInt8.le_antisymm (UInt8.not_lt.1 h2) (UInt8.not_lt.1 h)
        subst this
        simp [h, ih]
theorem cmp_swap : ∀ (x y : List UInt8), Lib.compareBytes x y = - Lib.compareBytes y x
  | [], [] => by simp [Lib.compareBytes]
  | [], _ :: _ => by simp [Lib.compareBytes]
  | _ :: _, [] => by simp [Lib.compareBytes]
  | a :: x, b :: y => by
    have ih := cmp_swap x y
    simp only [Lib.compareBytes]
    by_cases h : a < b
    · have : ¬ b < a := fun h2 => UInt8.lt_irrefl _ (UInt8.lt_trans h h2)
      simp [h, this]
    · by_cases h2 : b < a
      · simp [h, h2]
      · simp [h, h2, ih]
theorem less_trans : ∀ (x y z : List UInt8), Op.bytesLess x y = true → Op.bytesLess y z = true → Op.bytesLess x z = true
  | _, [], _, h, _ => by simp [Op.bytesLess] at h
  | _, _ :: _, [], _, h => by simp [Op.bytesLess] at h
  | [], _ :: _, _ :: _, _, _ => by simp [Op.bytesLess]
  | a :: x, b :: y, c :: z, h, h' => by
    have ih := less_trans x y z
    simp only [Op.bytesLess, Bool.or_eq_true, decide_eq_true_eq, Bool.and_eq_true, beq_iff_eq] at h h' ⊢
    rcases h with h | ⟨rfl, h⟩ <;> rcases h' with h' | ⟨rfl, h'⟩
    · exact .inl (UInt8.lt_trans h h')
    · exact .inl h
    · exact .inl h'
    · exact .inr ⟨rfl, ih h h'⟩
theorem less_irrefl (x : List UInt8) : Op.bytesLess x x = false := by
  induction x with
  | nil => rfl
  | cons a x ih => simp [Op.bytesLess, ih]
theorem toList_sb (s : ByteArray) : s.toList = sbytes s := ByteArray.toList_eq _
theorem bef_order (a b : Tgt) : befB a b = true ↔ orderI a b < 0 := by
  unfold befB orderI orI cmpB
  rw [toList_sb, toList_sb, toList_sb, toList_sb]
  by_cases h : sbytes a.name = sbytes b.name
  · have h0 := (cmp_zero _ _).2 h
    simp only [h, beq_self_eq_true, if_true]
    rw [(cmp_zero (sbytes b.name) (sbytes b.name)).2 rfl]
    simp [cmp_lt]
  · have h0 : ¬ Lib.compareBytes (sbytes a.name) (sbytes b.name) = 0 := fun e => h ((cmp_zero _ _).1 e)
    have h1 : (sbytes a.name == sbytes b.name) = false := by simpa using h
    simp [h1, h0, cmp_lt]
theorem order_swap (a b : Tgt) : orderI a b = - orderI b a := by
  unfold orderI orI cmpB
  rw [cmp_swap (sbytes a.name), cmp_swap (sbytes a.ecu)]
  by_cases h : Lib.compareBytes (sbytes b.name) (sbytes a.name) = 0
  · simp [h]
  · have : ¬ - Lib.compareBytes (sbytes b.name) (sbytes a.name) = 0 := by omega
    simp [h, this]
theorem order_zero {a b : Tgt} (h : orderI a b = 0) : sbytes a.name = sbytes b.name ∧ sbytes a.ecu = sbytes b.ecu := by
  unfold orderI orI cmpB at h
  by_cases h1 : Lib.compareBytes (sbytes a.name) (sbytes b.name) = 0
  · rw [h1] at h
    simp at h
    exact ⟨(cmp_zero _ _).1 h1, (cmp_zero _ _).1 h⟩
  · rw [if_pos h1] at h
    exact absurd h h1
theorem bef_congr {a b c d : Tgt} (h1 : sbytes a.name = sbytes c.name) (h2 : sbytes a.ecu = sbytes c.ecu) (h3 : sbytes b.name = sbytes d.name) (h4 : sbytes b.ecu = sbytes d.ecu) : befB a b = befB c d := by
  unfold befB
  simp only [toList_sb, h1, h2, h3, h4]
theorem bef_trans {a b c : Tgt} (h : befB a b = true) (h' : befB b c = true) : befB a c = true := by
  unfold befB at *
  simp only [toList_sb] at *
  by_cases h1 : sbytes a.name = sbytes b.name <;> by_cases h2 : sbytes b.name = sbytes c.name
  · simp [h1, h2] at h h' ⊢
    exact less_trans _ _ _ h h'
  · have : (sbytes b.name == sbytes c.name) = false := by simpa using h2
    simp [h1, this] at h h' ⊢
    exact h'
  · have : (sbytes a.name == sbytes b.name) = false := by simpa using h1
    simp [this] at h
    rw [← h2] at h' ⊢
    simp [this]
    exact h
  · have g1 : (sbytes a.name == sbytes b.name) = false := by simpa using h1
    have g2 : (sbytes b.name == sbytes c.name) = false := by simpa using h2
    simp [g1] at h
    simp [g2] at h'
    have h3 := less_trans _ _ _ h h'
    have g3 : (sbytes a.name == sbytes c.name) = false := by
      cases hq : (sbytes a.name == sbytes c.name) with
      | false => rfl
      | true =>
        rw [beq_iff_eq] at hq
        rw [hq, less_irrefl] at h3
        cases h3
    simp [g3]
    exact h3
theorem rises_bef (a b : Tgt) : risesB a b = befB a b := by
  unfold risesB befB
  by_cases h : (a.name.toList == b.name.toList) = true
  · have h1 : a.name.toList = b.name.toList := by simpa using h
    simp [h1, less_irrefl]
  · simp [h]

/-- Targets stand in order. -/
def sortT (K : List Tgt) : Prop := ∀ i a b, K[i]? = some a → K[i + 1]? = some b → befB a b = true
theorem sortT_nil : sortT [] := fun i a b h => by simp at h
theorem sortT_set {K : List Tgt} {t b : Tgt} {i : Nat} (h : sortT K) (hb : K[i]? = some b) (ho : orderI b t = 0) : sortT (K.set i t) := by
  obtain ⟨h1, h2⟩ := order_zero ho
  have hi := (List.getElem?_eq_some_iff.1 hb).1
  intro j x y hx hy
  rw [List.getElem?_set] at hx hy
  by_cases e1 : i = j
  · subst e1
    rw [if_pos rfl, if_pos hi] at hx
    rw [if_neg (by omega)] at hy
    cases hx
    rw [← bef_congr (a := b) (b := y) (d := y) h1 h2 rfl rfl]
    exact h _ _ _ hb hy
  · rw [if_neg e1] at hx
    by_cases e2 : i = j + 1
    · subst e2
      rw [if_pos rfl, if_pos hi] at hy
      cases hy
      rw [← bef_congr (a := x) (c := x) (b := b) rfl rfl h1 h2]
      exact h _ _ _ hx hb
    · rw [if_neg e2] at hy
      exact h _ _ _ hx hy
theorem ins_get {K : List Tgt} {t : Tgt} {i : Nat} (hi : i ≤ K.length) (j : Nat) : (K.take i ++ t :: K.drop i)[j]? = if j < i then K[j]? else if j = i then some t else K[j - 1]? := by
  have hl : (K.take i).length = i := by rw [List.length_take]; omega
  by_cases h : j < i
  · rw [if_pos h, List.getElem?_append_left (by omega), List.getElem?_take_of_lt h]
  · rw [if_neg h, List.getElem?_append_right (by omega), hl]
    by_cases h2 : j = i
    · subst h2
      simp
    · rw [if_neg h2]
      obtain ⟨m, hm⟩ : ∃ m, j - i = m + 1 := ⟨j - i - 1, by omega⟩
      rw [hm, List.getElem?_cons_succ, List.getElem?_drop]
      congr 1
      omega
theorem sortT_ins {K : List Tgt} {t : Tgt} {i : Nat} (h : sortT K) (hi : i ≤ K.length) (hlo : ∀ a, 0 < i → K[i - 1]? = some a → befB a t = true) (hhi : ∀ b, K[i]? = some b → befB t b = true) : sortT (K.take i ++ t :: K.drop i) := by
  intro j x y hx hy
  rw [ins_get hi] at hx hy
  by_cases h1 : j + 1 < i
  · rw [if_pos (by omega)] at hx
    rw [if_pos h1] at hy
    exact h _ _ _ hx hy
  · rw [if_neg h1] at hy
    by_cases h2 : j + 1 = i
    · rw [if_pos h2] at hy
      rw [if_pos (by omega)] at hx
      cases hy
      exact hlo x (by omega) (by rw [← h2]; simpa using hx)
    · rw [if_neg h2] at hy
      by_cases h3 : j = i
      · rw [if_neg (by omega), if_pos h3] at hx
        cases hx
        subst h3
        exact hhi y (by simpa using hy)
      · rw [if_neg (by omega), if_neg h3] at hx
        have hj : j = (j - 1) + 1 := by omega
        simp only [Nat.add_sub_cancel] at hy
        rw [hj] at hy
        exact h _ _ _ hx hy
theorem sortT_del {K : List Tgt} {i : Nat} (h : sortT K) : sortT (K.eraseIdx i) := by
  intro j x y hx hy
  rw [List.getElem?_eraseIdx] at hx hy
  by_cases h1 : j + 1 < i
  · rw [if_pos (by omega)] at hx
    rw [if_pos h1] at hy
    exact h _ _ _ hx hy
  · rw [if_neg h1] at hy
    by_cases h2 : j < i
    · rw [if_pos h2] at hx
      have hj1 : j + 1 < K.length := by have := (List.getElem?_eq_some_iff.1 hy).1; omega
      have hb : K[j + 1]? = some K[j + 1] := List.getElem?_eq_getElem hj1
      exact bef_trans (h _ _ _ hx hb) (h _ _ _ hb hy)
    · rw [if_neg h2] at hx
      exact h _ _ _ hx hy

theorem PubR.good {K K' : List Tgt} {t : Tgt} {e : Int} (h : PubR K t e K') (hs : sortT K) (hl : K.length ≤ 16) : sortT K' ∧ K'.length ≤ 16 ∧ (e = 0 → ∃ j : Nat, K'[j]? = some t) := by
  rcases h with ⟨_, rfl, rfl⟩ | ⟨_, i, hi, hlo, hhi, ⟨hf, rfl, rfl⟩ | ⟨hf, _, rfl, rfl⟩ | ⟨hf, h16, rfl, rfl⟩⟩
  · exact ⟨hs, hl, fun h => absurd h (by decide)⟩
  · have hin := found_lt hf
    have hb : K[i]? = some K[i] := List.getElem?_eq_getElem hin
    have ho : orderI K[i] t = 0 := by
      rw [foundB, hb] at hf
      exact of_decide_eq_true hf
    exact ⟨sortT_set hs hb ho, by rw [List.length_set]; exact hl, fun _ => ⟨i, by rw [List.getElem?_set, if_pos rfl, if_pos hin]⟩⟩
  · exact ⟨hs, hl, fun h => absurd h (by decide)⟩
  · refine ⟨sortT_ins hs hi (fun a h0 ha => (bef_order _ _).2 (hlo a h0 ha)) (fun b hb => (bef_order _ _).2 ?_), by simp; omega, fun _ => ⟨i, by rw [ins_get hi, if_neg (by omega), if_pos rfl]⟩⟩
    have h1 := hhi b hb
    have h2 : orderI b t ≠ 0 := fun e => by
      rw [foundB, hb] at hf
      exact absurd e (of_decide_eq_false hf)
    rw [order_swap]
    omega
theorem RemR.good {K K' : List Tgt} {t : Tgt} {e : Int} (h : RemR K t e K') (hs : sortT K) (hl : K.length ≤ 16) : sortT K' ∧ K'.length ≤ 16 := by
  obtain ⟨i, hi, hlo, hhi, ⟨hf, rfl, rfl⟩ | ⟨hf, rfl, rfl⟩⟩ := h
  · exact ⟨sortT_del hs, Nat.le_trans (List.length_eraseIdx_le _ _) hl⟩
  · exact ⟨hs, hl⟩
/-- Whatever stands in the list has been given. -/
theorem PubR.mem {K K' : List Tgt} {t : Tgt} {e : Int} (h : PubR K t e K') {x : Tgt} (hx : x ∈ K') : x ∈ K ∨ (x = t ∧ soloB t = true) := by
  rcases h with ⟨_, rfl, rfl⟩ | ⟨hso, i, hi, hlo, hhi, ⟨hf, rfl, rfl⟩ | ⟨hf, _, rfl, rfl⟩ | ⟨hf, h16, rfl, rfl⟩⟩
  · exact .inl hx
  · rcases List.mem_or_eq_of_mem_set hx with h | h
    · exact .inl h
    · exact .inr ⟨h, hso⟩
  · exact .inl hx
  · simp only [List.mem_append, List.mem_cons] at hx
    rcases hx with hx | hx | hx
    · exact .inl (List.mem_of_mem_take hx)
    · exact .inr ⟨hx, hso⟩
    · exact .inl (List.mem_of_mem_drop hx)
theorem RemR.mem {K K' : List Tgt} {t : Tgt} {e : Int} (h : RemR K t e K') {x : Tgt} (hx : x ∈ K') : x ∈ K := by
  obtain ⟨i, hi, hlo, hhi, ⟨hf, rfl, rfl⟩ | ⟨hf, rfl, rfl⟩⟩ := h
  · exact List.mem_of_mem_eraseIdx hx
  · exact hx
end Go.Proofs.YtecbpmgfikgoaaaGreatDoor
