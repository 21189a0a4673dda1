/- Walks of functions 173 168 167 125 143 147 150 175 154: what each call gives back, and that it writes nothing of anybody else's. Conditions: as each theorem says. -/
import Derived.Test.YtecbpmgfikgoaaaGreatDoorX6
set_option linter.unusedVariables false
set_option linter.unusedSimpArgs false
set_option maxRecDepth 8000
set_option maxHeartbeats 4000000
namespace Go.Proofs.YtecbpmgfikgoaaaGreatDoor
open Go Go.RowKit
variable {G w : World} {M : List Chunk} {I : Imm}

theorem sign_c {c : UInt8} (h : signsL.contains c = true) : (97 ≤ (c.toNat : Int) ∧ (c.toNat : Int) ≤ 122) ∨ (48 ≤ (c.toNat : Int) ∧ (c.toNat : Int) ≤ 57) ∨ (c.toNat : Int) = 45 := by
  rw [List.contains_iff_mem] at h
  simp only [signsL, List.mem_cons, List.not_mem_nil, or_false] at h
  rcases h with rfl | rfl | rfl | rfl | rfl | rfl | rfl | rfl | rfl | rfl | rfl | rfl | rfl | rfl | rfl | rfl | rfl | rfl | rfl | rfl | rfl | rfl | rfl | rfl | rfl | rfl | rfl | rfl | rfl | rfl | rfl | rfl | rfl | rfl | rfl | rfl | rfl <;> decide
theorem name_signs {s : ByteArray} (h : nameB s = true) : s.size ≠ 0 ∧ s.size ≤ 12 ∧ ∀ c ∈ sbytes s, signsL.contains c = true := by
  simp only [nameB, Bool.and_eq_true, decide_eq_true_eq, List.all_eq_true] at h
  exact h
theorem version_in {x : Int} (h : isVersionB x = true) : 1 ≤ x ∧ x ≤ 1073741824 := by
  simpa only [isVersionB, Bool.and_eq_true, decide_eq_true_eq] using h
theorem num_in {x : Int} (h : isNumB x = true) : 0 ≤ x ∧ x ≤ 1073741824 := by
  simpa only [isNumB, Bool.and_eq_true, decide_eq_true_eq] using h

theorem role_part {v e : Int} {ks : Nat → Value} {i : Nat} (hi : i < 4) : part (rcells v e ks) (2 + i * 2) 2 = [ks i, .int .i64 1] := by
  rcases (by omega : i = 0 ∨ i = 1 ∨ i = 2 ∨ i = 3) with rfl | rfl | rfl | rfl <;> rfl
theorem target_in {t : Tgt} (h : targetB t = true) : nameB t.name = true ∧ 0 ≤ t.size ∧ t.size ≤ 512 ∧ nameB t.hw = true ∧ isNumB t.ctr = true ∧ (t.ecu.toList = (⟨#[]⟩ : ByteArray).toList ∨ nameB t.ecu = true) := by
  simpa only [targetB, Bool.and_eq_true, Bool.or_eq_true, decide_eq_true_eq, beq_iff_eq] using h
theorem targets_in {s : ByteArray} {v e : Int} {K : List Tgt} (h : targetsB s v e K = true) : nameB s = true ∧ isVersionB v = true ∧ isNumB e = true ∧ K.length ≤ 16 ∧ (∀ (i : Nat) t, K[i]? = some t → targetB t = true) ∧ (∀ (i : Nat) a b, K[i]? = some a → K[i + 1]? = some b → befB a b = true) := by
  simp only [targetsB, Bool.and_eq_true, decide_eq_true_eq, List.all_eq_true, List.mem_range] at h
  obtain ⟨h1, h2, h3, h4, h5⟩ := h
  refine ⟨h1, h2, h3, h4, fun i t ht => ?_, fun i a b ha hb => ?_⟩
  · have := h5 i (List.getElem?_eq_some_iff.1 ht).1
    simp only [chkB, ht, Bool.and_eq_true] at this
    exact this.1
  · have := h5 (i + 1) (List.getElem?_eq_some_iff.1 hb).1
    simp only [chkB, hb, ha, Bool.and_eq_true] at this
    rw [← rises_bef]
    exact this.2

theorem C173 {s : ByteArray} (h : nameB s = true) (hs : Sat G M I w) : Calls Tryz.prog 173 #[.string s] w (Ret fun r w' => r = .bool true ∧ Sat G M I w') := by
  obtain ⟨hn0, hn12, hsg⟩ := name_signs h
  refine enter1 Tryz.func173 rfl Tryz.ntmps173 rfl ?_
  repeat first | apply W.seq | apply W.region
  refine RL.p rfl rfl rfl (PV_assign rfl rfl) ?_
  refine RL.done (nxt ?_)
  repeat first | apply W.seq | apply W.region
  refine RL.p rfl rfl rfl (PV_assign rfl rfl) ?_
  refine RL.done (nxt ?_)
  repeat first | apply W.seq | apply W.region
  refine W.block ?_
  repeat first | apply W.seq | apply W.region
  refine W.loop (F := fun i : Nat => [(3, .int .i64 (i : Int)), (0, .string s)]) (J := fun i w => i ≤ s.size ∧ Sat G M I w) (m := fun i => s.size - i) 0 (by repeat first | exact Sub.nil | refine Sub.cons rfl ?_) ⟨by omega, hs⟩ ?_
  rintro i w1 ⟨hi, hs1⟩
  repeat first | apply W.seq | apply W.region
  refine RL.p rfl rfl rfl (PV_move rfl rfl) ?_
  refine RL.p rfl rfl rfl (PV_move rfl rfl) ?_
  refine RL.p rfl rfl rfl (PV_lens rfl Tryz.underlying9 rfl) ?_
  refine RL.p rfl rfl rfl (PV_lss rfl rfl rfl) ?_
  refine RL.done (nxt ?_)
  repeat first | apply W.seq | apply W.region
  refine W.cond rfl (fun h1 => ?_) (fun h1 => ?_)
  ·
    have hi1 : i < s.size := by have := of_decide_eq_true h1; omega
    obtain ⟨c, hx⟩ : ∃ c, (sbytes s)[i]? = some c := ⟨_, List.getElem?_eq_getElem (by rw [length_sbytes]; exact hi1)⟩
    have hc := sign_c (hsg c (List.mem_of_getElem? hx))
    refine W.skip (nxt ?_)
    repeat first | apply W.seq | apply W.region
    refine W.block ?_
    repeat refine W.seq ?_
    refine W.cut (fun b : Bool => [(37, .bool b), (3, .int .i64 (i : Int)), (0, .string s)]) (fun b w => b = false ∧ Sat G M I w) ?_ ?_
    ·
      refine W.region ?_
      refine RL.p rfl rfl rfl (PV_move rfl rfl) ?_
      refine RL.p rfl rfl rfl (PV_move rfl rfl) ?_
      refine RL.p rfl rfl rfl (PV_indexs i rfl Tryz.underlying9 rfl rfl rfl hx) ?_
      refine RL.p rfl rfl rfl (PV_lss rfl rfl rfl) ?_
      refine RL.p rfl rfl rfl (PV_move rfl rfl) ?_
      refine RL.split 14 rfl (fun g1 => ?_) (fun g1 => ?_)
      ·
        refine RL.gk rfl rfl rfl rfl g1 rfl rfl rfl ?_
        refine RL.gk rfl rfl rfl rfl g1 rfl rfl rfl ?_
        refine RL.gk rfl rfl rfl rfl g1 rfl rfl rfl ?_
        refine RL.gk rfl rfl rfl rfl g1 rfl rfl rfl ?_
        refine RL.p rfl rfl rfl (PV_pickT rfl rfl g1 rfl) ?_
        refine RL.p rfl rfl rfl (PV_move rfl rfl) ?_
        refine RL.gp rfl rfl rfl rfl rfl rfl rfl rfl (PV_move rfl rfl) ?_
        refine RL.gp rfl rfl rfl rfl rfl rfl rfl rfl (PV_move rfl rfl) ?_
        refine RL.gp rfl rfl rfl rfl rfl rfl rfl rfl (PV_indexs i rfl Tryz.underlying9 rfl rfl rfl hx) ?_
        refine RL.gp rfl rfl rfl rfl rfl rfl rfl rfl (PV_lss rfl rfl rfl) ?_
        refine RL.gp rfl rfl rfl rfl rfl rfl rfl rfl (PV_move rfl rfl) ?_
        refine RL.split 25 rfl (fun g2 => ?_) (fun g2 => ?_)
        ·
          refine RL.gk rfl rfl rfl rfl g2 rfl rfl rfl ?_
          refine RL.gk rfl rfl rfl rfl g2 rfl rfl rfl ?_
          refine RL.gk rfl rfl rfl rfl g2 rfl rfl rfl ?_
          refine RL.gk rfl rfl rfl rfl g2 rfl rfl rfl ?_
          refine RL.gp rfl rfl rfl rfl rfl rfl rfl rfl (PV_pickT rfl rfl g2 rfl) ?_
          refine RL.p rfl rfl rfl (PV_pickT rfl rfl rfl rfl) ?_
          refine RL.p rfl rfl rfl (PV_move rfl rfl) ?_
          refine RL.gp rfl rfl rfl rfl rfl rfl rfl rfl (PV_move rfl rfl) ?_
          refine RL.gp rfl rfl rfl rfl rfl rfl rfl rfl (PV_move rfl rfl) ?_
          refine RL.gp rfl rfl rfl rfl rfl rfl rfl rfl (PV_indexs i rfl Tryz.underlying9 rfl rfl rfl hx) ?_
          refine RL.gp rfl rfl rfl rfl rfl rfl rfl rfl (PV_nei rfl rfl rfl) ?_
          refine RL.p rfl rfl rfl (PV_pickT rfl rfl rfl rfl) ?_
          exact RL.done (cut_end (F := (fun b : Bool => [(37, .bool b), (3, .int .i64 (i : Int)), (0, .string s)])) (J := (fun b w => b = false ∧ Sat G M I w)) _ (by repeat first | exact Sub.nil | refine Sub.cons rfl ?_) (by exact (by exact ⟨by first | rfl | (simp only [decide_eq_true_eq, decide_eq_false_iff_not] at *; omega), hs1⟩)))
        ·
          refine RL.gp rfl rfl rfl rfl g2 rfl rfl rfl (PV_move rfl rfl) ?_
          refine RL.gp rfl rfl rfl rfl g2 rfl rfl rfl (PV_move rfl rfl) ?_
          refine RL.gp rfl rfl rfl rfl g2 rfl rfl rfl (PV_indexs i rfl Tryz.underlying9 rfl rfl rfl hx) ?_
          refine RL.gp rfl rfl rfl rfl g2 rfl rfl rfl (PV_gtr rfl rfl rfl) ?_
          refine RL.gp rfl rfl rfl rfl rfl rfl rfl rfl (PV_pickF rfl rfl g2 rfl) ?_
          refine RL.p rfl rfl rfl (PV_pickT rfl rfl rfl rfl) ?_
          refine RL.p rfl rfl rfl (PV_move rfl rfl) ?_
          refine RL.split 32 rfl (fun g3 => ?_) (fun g3 => ?_)
          ·
            refine RL.gp rfl rfl rfl rfl g3 rfl rfl rfl (PV_move rfl rfl) ?_
            refine RL.gp rfl rfl rfl rfl g3 rfl rfl rfl (PV_move rfl rfl) ?_
            refine RL.gp rfl rfl rfl rfl g3 rfl rfl rfl (PV_indexs i rfl Tryz.underlying9 rfl rfl rfl hx) ?_
            refine RL.gp rfl rfl rfl rfl g3 rfl rfl rfl (PV_nei rfl rfl rfl) ?_
            refine RL.p rfl rfl rfl (PV_pickT rfl rfl g3 rfl) ?_
            exact RL.done (cut_end (F := (fun b : Bool => [(37, .bool b), (3, .int .i64 (i : Int)), (0, .string s)])) (J := (fun b w => b = false ∧ Sat G M I w)) _ (by repeat first | exact Sub.nil | refine Sub.cons rfl ?_) (by exact (by exact ⟨by first | rfl | (simp only [decide_eq_true_eq, decide_eq_false_iff_not] at *; omega), hs1⟩)))
          ·
            refine RL.gk rfl rfl rfl rfl g3 rfl rfl rfl ?_
            refine RL.gk rfl rfl rfl rfl g3 rfl rfl rfl ?_
            refine RL.gk rfl rfl rfl rfl g3 rfl rfl rfl ?_
            refine RL.gk rfl rfl rfl rfl g3 rfl rfl rfl ?_
            refine RL.p rfl rfl rfl (PV_pickF rfl rfl g3 rfl) ?_
            exact RL.done (cut_end (F := (fun b : Bool => [(37, .bool b), (3, .int .i64 (i : Int)), (0, .string s)])) (J := (fun b w => b = false ∧ Sat G M I w)) _ (by repeat first | exact Sub.nil | refine Sub.cons rfl ?_) (by exact (by exact ⟨by first | rfl | (simp only [decide_eq_true_eq, decide_eq_false_iff_not] at *; omega), hs1⟩)))
      ·
        refine RL.gp rfl rfl rfl rfl g1 rfl rfl rfl (PV_move rfl rfl) ?_
        refine RL.gp rfl rfl rfl rfl g1 rfl rfl rfl (PV_move rfl rfl) ?_
        refine RL.gp rfl rfl rfl rfl g1 rfl rfl rfl (PV_indexs i rfl Tryz.underlying9 rfl rfl rfl hx) ?_
        refine RL.gp rfl rfl rfl rfl g1 rfl rfl rfl (PV_gtr rfl rfl rfl) ?_
        refine RL.p rfl rfl rfl (PV_pickF rfl rfl g1 rfl) ?_
        refine RL.p rfl rfl rfl (PV_move rfl rfl) ?_
        refine RL.split 20 rfl (fun g4 => ?_) (fun g4 => ?_)
        ·
          refine RL.gp rfl rfl rfl rfl g4 rfl rfl rfl (PV_move rfl rfl) ?_
          refine RL.gp rfl rfl rfl rfl g4 rfl rfl rfl (PV_move rfl rfl) ?_
          refine RL.gp rfl rfl rfl rfl g4 rfl rfl rfl (PV_indexs i rfl Tryz.underlying9 rfl rfl rfl hx) ?_
          refine RL.gp rfl rfl rfl rfl g4 rfl rfl rfl (PV_lss rfl rfl rfl) ?_
          refine RL.gp rfl rfl rfl rfl g4 rfl rfl rfl (PV_move rfl rfl) ?_
          refine RL.split 25 rfl (fun g5 => ?_) (fun g5 => ?_)
          ·
            refine RL.gk rfl rfl rfl rfl g5 rfl rfl rfl ?_
            refine RL.gk rfl rfl rfl rfl g5 rfl rfl rfl ?_
            refine RL.gk rfl rfl rfl rfl g5 rfl rfl rfl ?_
            refine RL.gk rfl rfl rfl rfl g5 rfl rfl rfl ?_
            refine RL.gp rfl rfl rfl rfl g4 rfl rfl rfl (PV_pickT rfl rfl g5 rfl) ?_
            refine RL.p rfl rfl rfl (PV_pickT rfl rfl g4 rfl) ?_
            refine RL.p rfl rfl rfl (PV_move rfl rfl) ?_
            refine RL.gp rfl rfl rfl rfl rfl rfl rfl rfl (PV_move rfl rfl) ?_
            refine RL.gp rfl rfl rfl rfl rfl rfl rfl rfl (PV_move rfl rfl) ?_
            refine RL.gp rfl rfl rfl rfl rfl rfl rfl rfl (PV_indexs i rfl Tryz.underlying9 rfl rfl rfl hx) ?_
            refine RL.gp rfl rfl rfl rfl rfl rfl rfl rfl (PV_nei rfl rfl rfl) ?_
            refine RL.p rfl rfl rfl (PV_pickT rfl rfl rfl rfl) ?_
            exact RL.done (cut_end (F := (fun b : Bool => [(37, .bool b), (3, .int .i64 (i : Int)), (0, .string s)])) (J := (fun b w => b = false ∧ Sat G M I w)) _ (by repeat first | exact Sub.nil | refine Sub.cons rfl ?_) (by exact (by exact ⟨by first | rfl | (simp only [decide_eq_true_eq, decide_eq_false_iff_not] at *; omega), hs1⟩)))
          ·
            refine RL.gp rfl rfl rfl rfl g5 rfl rfl rfl (PV_move rfl rfl) ?_
            refine RL.gp rfl rfl rfl rfl g5 rfl rfl rfl (PV_move rfl rfl) ?_
            refine RL.gp rfl rfl rfl rfl g5 rfl rfl rfl (PV_indexs i rfl Tryz.underlying9 rfl rfl rfl hx) ?_
            refine RL.gp rfl rfl rfl rfl g5 rfl rfl rfl (PV_gtr rfl rfl rfl) ?_
            refine RL.gp rfl rfl rfl rfl g4 rfl rfl rfl (PV_pickF rfl rfl g5 rfl) ?_
            refine RL.p rfl rfl rfl (PV_pickT rfl rfl g4 rfl) ?_
            refine RL.p rfl rfl rfl (PV_move rfl rfl) ?_
            refine RL.split 32 rfl (fun g6 => ?_) (fun g6 => ?_)
            ·
              refine RL.gp rfl rfl rfl rfl g6 rfl rfl rfl (PV_move rfl rfl) ?_
              refine RL.gp rfl rfl rfl rfl g6 rfl rfl rfl (PV_move rfl rfl) ?_
              refine RL.gp rfl rfl rfl rfl g6 rfl rfl rfl (PV_indexs i rfl Tryz.underlying9 rfl rfl rfl hx) ?_
              refine RL.gp rfl rfl rfl rfl g6 rfl rfl rfl (PV_nei rfl rfl rfl) ?_
              refine RL.p rfl rfl rfl (PV_pickT rfl rfl g6 rfl) ?_
              exact RL.done (cut_end (F := (fun b : Bool => [(37, .bool b), (3, .int .i64 (i : Int)), (0, .string s)])) (J := (fun b w => b = false ∧ Sat G M I w)) _ (by repeat first | exact Sub.nil | refine Sub.cons rfl ?_) (by exact (by exact ⟨by first | rfl | (simp only [decide_eq_true_eq, decide_eq_false_iff_not] at *; omega), hs1⟩)))
            ·
              refine RL.gk rfl rfl rfl rfl g6 rfl rfl rfl ?_
              refine RL.gk rfl rfl rfl rfl g6 rfl rfl rfl ?_
              refine RL.gk rfl rfl rfl rfl g6 rfl rfl rfl ?_
              refine RL.gk rfl rfl rfl rfl g6 rfl rfl rfl ?_
              refine RL.p rfl rfl rfl (PV_pickF rfl rfl g6 rfl) ?_
              exact RL.done (cut_end (F := (fun b : Bool => [(37, .bool b), (3, .int .i64 (i : Int)), (0, .string s)])) (J := (fun b w => b = false ∧ Sat G M I w)) _ (by repeat first | exact Sub.nil | refine Sub.cons rfl ?_) (by exact (by exact ⟨by first | rfl | (simp only [decide_eq_true_eq, decide_eq_false_iff_not] at *; omega), hs1⟩)))
        ·
          refine RL.gk rfl rfl rfl rfl g4 rfl rfl rfl ?_
          refine RL.gk rfl rfl rfl rfl g4 rfl rfl rfl ?_
          refine RL.gk rfl rfl rfl rfl g4 rfl rfl rfl ?_
          refine RL.gk rfl rfl rfl rfl g4 rfl rfl rfl ?_
          refine RL.gk rfl rfl rfl rfl g4 rfl rfl rfl ?_
          refine RL.gu rfl rfl rfl rfl rfl rfl ?_
          refine RL.gu rfl rfl rfl rfl rfl rfl ?_
          refine RL.gu rfl rfl rfl rfl rfl rfl ?_
          refine RL.gu rfl rfl rfl rfl rfl rfl ?_
          refine RL.gk rfl rfl rfl rfl g4 rfl rfl rfl ?_
          refine RL.p rfl rfl rfl (PV_pickF rfl rfl g4 rfl) ?_
          refine RL.p rfl rfl rfl (PV_move rfl rfl) ?_
          refine RL.gk rfl rfl rfl rfl rfl rfl rfl rfl ?_
          refine RL.gk rfl rfl rfl rfl rfl rfl rfl rfl ?_
          refine RL.gk rfl rfl rfl rfl rfl rfl rfl rfl ?_
          refine RL.gk rfl rfl rfl rfl rfl rfl rfl rfl ?_
          refine RL.p rfl rfl rfl (PV_pickF rfl rfl rfl rfl) ?_
          exact RL.done (cut_end (F := (fun b : Bool => [(37, .bool b), (3, .int .i64 (i : Int)), (0, .string s)])) (J := (fun b w => b = false ∧ Sat G M I w)) _ (by repeat first | exact Sub.nil | refine Sub.cons rfl ?_) (by exact (by exact ⟨by first | rfl | (simp only [decide_eq_true_eq, decide_eq_false_iff_not] at *; omega), hs1⟩)))
    rintro b w101 ⟨rfl, hs101⟩
    refine nxt ?_
    repeat first | apply W.seq | apply W.region
    refine W.cond rfl (fun h2 => ?_) (fun h2 => ?_)
    · cases h2
    refine W.skip (nxt ?_)
    repeat first | apply W.seq | apply W.region
    refine RL.p rfl rfl rfl (PV_move rfl rfl) ?_
    refine RL.p rfl rfl rfl (PV_add rfl rfl rfl (by omega)) ?_
    refine RL.p rfl rfl rfl (PV_assign rfl rfl) ?_
    refine RL.done (round_end (i + 1) ?_ ?_ ?_)
    · repeat first | exact Sub.nil | refine Sub.cons rfl ?_
    · exact ⟨by omega, hs101⟩
    · first | omega | (dsimp only; omega)
  repeat first | apply W.seq | apply W.region
  refine W.exit (nxt ?_)
  repeat first | apply W.seq | apply W.region
  refine RL.p rfl rfl rfl (PV_move rfl rfl) ?_
  refine RL.p rfl rfl rfl (PV_lens rfl Tryz.underlying9 rfl) ?_
  refine RL.p rfl rfl rfl (PV_geq rfl rfl rfl) ?_
  refine RL.p rfl rfl rfl (PV_move rfl rfl) ?_
  refine RL.split 41 rfl (fun g7 => ?_) (fun g7 => by exact absurd (of_decide_eq_false g7) (by omega))
  refine RL.gp rfl rfl rfl rfl g7 rfl rfl rfl (PV_move rfl rfl) ?_
  refine RL.gp rfl rfl rfl rfl g7 rfl rfl rfl (PV_lens rfl Tryz.underlying9 rfl) ?_
  refine RL.gp rfl rfl rfl rfl g7 rfl rfl rfl (PV_leq rfl rfl rfl) ?_
  refine RL.p rfl rfl rfl (PV_pickT rfl rfl g7 rfl) ?_
  refine RL.p rfl rfl rfl (PV_assign rfl rfl) ?_
  refine RL.done (nxt ?_)
  repeat first | apply W.seq | apply W.region
  exact W.ret (ret_tmp rfl rfl ⟨_, rfl, congrArg Value.bool (decide_eq_true (by omega)), hs1⟩)

theorem C168 {ab : Nat} {x : Int} {T : TypeId} (h : isNumB x = true) (hm : (ab, [.int .i64 x], T) ∈ M) (hs : Sat G M I w) : Calls Tryz.prog 168 #[.slice (some ⟨ab, 0, none⟩) 1 1] w (Ret fun r w' => r = .bool true ∧ Sat G M I w') := by
  have hx := num_in h
  refine enter1 Tryz.func168 rfl Tryz.ntmps168 rfl ?_
  repeat first | apply W.seq | apply W.region
  refine RL.p rfl rfl rfl (PV_assign rfl rfl) ?_
  refine RL.done (nxt ?_)
  repeat first | apply W.seq | apply W.region
  refine RL.p rfl rfl rfl (PV_assign rfl rfl) ?_
  refine RL.done (nxt ?_)
  repeat first | apply W.seq | apply W.region
  refine W.block ?_
  repeat first | apply W.seq | apply W.region
  refine W.loop (F := fun i : Nat => [(3, .int .i64 (i : Int)), (0, .slice (some ⟨ab, 0, none⟩) 1 1)]) (J := fun i w => i ≤ 1 ∧ Sat G M I w) (m := fun i => 1 - i) 0 (by repeat first | exact Sub.nil | refine Sub.cons rfl ?_) ⟨by omega, hs⟩ ?_
  rintro i w1 ⟨hi, hs1⟩
  repeat first | apply W.seq | apply W.region
  refine RL.p rfl rfl rfl (PV_move rfl rfl) ?_
  refine RL.p rfl rfl rfl (PV_move rfl rfl) ?_
  refine RL.p rfl rfl rfl (PV_len rfl Tryz.underlying178 rfl) ?_
  refine RL.p rfl rfl rfl (PV_lss rfl rfl rfl) ?_
  refine RL.done (nxt ?_)
  repeat first | apply W.seq | apply W.region
  refine W.cond rfl (fun h1 => ?_) (fun h1 => ?_)
  ·
    obtain rfl : i = 0 := by have := of_decide_eq_true h1; omega
    refine W.skip (nxt ?_)
    repeat first | apply W.seq | apply W.region
    refine W.block ?_
    repeat first | apply W.seq | apply W.region
    refine RL.p rfl rfl rfl (PV_move rfl rfl) ?_
    refine RL.p rfl rfl rfl (PV_move rfl rfl) ?_
    refine RL.p rfl rfl rfl (PV_indexAddr1 _ rfl Tryz.underlying178 sz3 rfl rfl rfl (by omega)) ?_
    refine RL.s rfl rfl rfl (PV_loadM1 rfl ag3 rfl (by first | exact m0 | exact m1 | exact m2 | exact m3 | exact m4 | exact m5 | exact mapp m0 | exact mapp m1 | exact mapp m2 | exact mapp m3 | exact hm | exact .tail _ hm | exact .tail _ (.tail _ hm)) (by first | exact tc_34 | exact tc_35 | exact tc_36 | exact tc_0 | exact tc_1 | rfl)) hs1 ?_
    refine RL.p rfl rfl rfl (PV_lss rfl rfl rfl) ?_
    refine RL.p rfl rfl rfl (PV_move rfl rfl) ?_
    refine RL.split 15 rfl (fun g1 => by exact absurd (of_decide_eq_true g1) (by omega)) (fun g1 => ?_)
    refine RL.gp rfl rfl rfl rfl g1 rfl rfl rfl (PV_move rfl rfl) ?_
    refine RL.gp rfl rfl rfl rfl g1 rfl rfl rfl (PV_move rfl rfl) ?_
    refine RL.gp rfl rfl rfl rfl g1 rfl rfl rfl (PV_indexAddr1 _ rfl Tryz.underlying178 sz3 rfl rfl rfl (by omega)) ?_
    refine RL.gs rfl rfl rfl rfl g1 rfl rfl rfl (PV_loadM1 rfl ag3 rfl (by first | exact m0 | exact m1 | exact m2 | exact m3 | exact m4 | exact m5 | exact mapp m0 | exact mapp m1 | exact mapp m2 | exact mapp m3 | exact hm | exact .tail _ hm | exact .tail _ (.tail _ hm)) (by first | exact tc_34 | exact tc_35 | exact tc_36 | exact tc_0 | exact tc_1 | rfl)) hs1 ?_
    refine RL.gp rfl rfl rfl rfl g1 rfl rfl rfl (PV_gtr rfl rfl rfl) ?_
    refine RL.p rfl rfl rfl (PV_pickF rfl rfl g1 rfl) ?_
    refine RL.done (nxt ?_)
    repeat first | apply W.seq | apply W.region
    refine W.cond rfl (fun h2 => ?_) (fun h2 => ?_)
    · exact absurd (of_decide_eq_true h2) (by omega)
    refine W.skip (nxt ?_)
    repeat first | apply W.seq | apply W.region
    refine RL.p rfl rfl rfl (PV_move rfl rfl) ?_
    refine RL.p rfl rfl rfl (PV_add rfl rfl rfl (by omega)) ?_
    refine RL.p rfl rfl rfl (PV_assign rfl rfl) ?_
    refine RL.done (round_end 1 ?_ ?_ ?_)
    · repeat first | exact Sub.nil | refine Sub.cons rfl ?_
    · exact ⟨by omega, hs1⟩
    · first | omega | (dsimp only; omega)
  repeat first | apply W.seq | apply W.region
  refine W.exit (nxt ?_)
  repeat first | apply W.seq | apply W.region
  refine RL.p rfl rfl rfl (PV_assign rfl rfl) ?_
  refine RL.done (nxt ?_)
  repeat first | apply W.seq | apply W.region
  exact W.ret (ret_tmp rfl rfl ⟨_, rfl, rfl, hs1⟩)

theorem C167 {x : Int} (h : isVersionB x = true) (hs : Sat G M I w) : Calls Tryz.prog 167 #[.int .i64 x] w (Ret fun r w' => r = .bool true ∧ Sat G M I w') := by
  have hx := version_in h
  refine enter1 Tryz.func167 rfl Tryz.ntmps167 rfl ?_
  repeat first | apply W.seq | apply W.region
  refine RL.p rfl rfl rfl (PV_assign rfl rfl) ?_
  refine RL.done (nxt ?_)
  repeat first | apply W.seq | apply W.region
  refine RL.p rfl rfl rfl (PV_move rfl rfl) ?_
  refine RL.p rfl rfl rfl (PV_geq rfl rfl rfl) ?_
  refine RL.p rfl rfl rfl (PV_move rfl rfl) ?_
  refine RL.split 5 rfl (fun g1 => ?_) (fun g1 => by exact absurd (of_decide_eq_false g1) (by omega))
  refine RL.gp rfl rfl rfl rfl g1 rfl rfl rfl (PV_move rfl rfl) ?_
  refine RL.gp rfl rfl rfl rfl g1 rfl rfl rfl (PV_leq rfl rfl rfl) ?_
  refine RL.p rfl rfl rfl (PV_pickT rfl rfl g1 rfl) ?_
  refine RL.p rfl rfl rfl (PV_assign rfl rfl) ?_
  refine RL.done (nxt ?_)
  repeat first | apply W.seq | apply W.region
  exact W.ret (ret_tmp rfl rfl ⟨_, rfl, congrArg Value.bool (decide_eq_true (by omega)), hs⟩)

theorem C125 {v : Value} {h : List UInt8} (h32 : h.length = 32) (hv : SlM G M I 32 v 1 (bcells h)) (hs : Sat G M I w) : Calls Tryz.prog 125 #[aggL [v, .int .i64 1]] w (Ret fun r w' => r = .bool true ∧ Sat G M I w') := by
  obtain ⟨b, off, c, rfl, hc, hmem⟩ := hv.elem (by omega)
  refine enter1 Tryz.func125 rfl Tryz.ntmps125 rfl ?_
  repeat first | apply W.seq | apply W.region
  refine RL.e rfl rfl rfl (EF_boxA rfl rfl hs) ?_
  rintro r1 w1 ⟨b1, rfl, hs1⟩
  refine RL.p rfl rfl rfl (PV_assign rfl rfl) ?_
  refine RL.done (nxt ?_)
  repeat first | apply W.seq | apply W.region
  refine RL.p rfl rfl rfl (by first | exact PV_fieldAddr0 rfl rfl fa39_0 | exact PV_fieldAddr rfl rfl fa39_0) ?_
  refine RL.s rfl rfl rfl (PV_loadM1 rfl ag37 rfl (by first | exact m0 | exact m1 | exact m2 | exact m3 | exact m4 | exact m5 | exact mapp m0 | exact mapp m1 | exact mapp m2 | exact mapp m3) (by first | exact tc_34 | exact tc_35 | exact tc_36 | exact tc_0 | exact tc_1 | rfl)) hs1 ?_
  refine RL.p rfl rfl rfl (PV_len rfl Tryz.underlying37 rfl) ?_
  refine RL.p rfl rfl rfl (PV_lss rfl rfl rfl) ?_
  refine RL.p rfl rfl rfl (PV_move rfl rfl) ?_
  refine RL.split 9 rfl (fun g1 => by exact absurd (of_decide_eq_true g1) (by omega)) (fun g1 => ?_)
  refine RL.gp rfl rfl rfl rfl g1 rfl rfl rfl (by first | exact PV_fieldAddr0 rfl rfl fa39_0 | exact PV_fieldAddr rfl rfl fa39_0) ?_
  refine RL.gs rfl rfl rfl rfl g1 rfl rfl rfl (PV_loadM1 rfl ag37 rfl (by first | exact m0 | exact m1 | exact m2 | exact m3 | exact m4 | exact m5 | exact mapp m0 | exact mapp m1 | exact mapp m2 | exact mapp m3) (by first | exact tc_34 | exact tc_35 | exact tc_36 | exact tc_0 | exact tc_1 | rfl)) hs1 ?_
  refine RL.gp rfl rfl rfl rfl g1 rfl rfl rfl (PV_len rfl Tryz.underlying37 rfl) ?_
  refine RL.gp rfl rfl rfl rfl g1 rfl rfl rfl (PV_gtr rfl rfl rfl) ?_
  refine RL.p rfl rfl rfl (PV_pickF rfl rfl g1 rfl) ?_
  refine RL.p rfl rfl rfl (PV_move rfl rfl) ?_
  refine RL.split 15 rfl (fun g2 => by exact absurd (of_decide_eq_true g2) (by omega)) (fun g2 => ?_)
  refine RL.gp rfl rfl rfl rfl g2 rfl rfl rfl (by first | exact PV_fieldAddr0 rfl rfl fa39_1 | exact PV_fieldAddr rfl rfl fa39_1) ?_
  refine RL.gs rfl rfl rfl rfl g2 rfl rfl rfl (PV_loadM1 rfl ag3 rfl (by first | exact m0 | exact m1 | exact m2 | exact m3 | exact m4 | exact m5 | exact mapp m0 | exact mapp m1 | exact mapp m2 | exact mapp m3) (by first | exact tc_34 | exact tc_35 | exact tc_36 | exact tc_0 | exact tc_1 | rfl)) hs1 ?_
  refine RL.gp rfl rfl rfl rfl g2 rfl rfl rfl (PV_lss rfl rfl rfl) ?_
  refine RL.p rfl rfl rfl (PV_pickF rfl rfl g2 rfl) ?_
  refine RL.p rfl rfl rfl (PV_move rfl rfl) ?_
  refine RL.split 20 rfl (fun g3 => by exact absurd (of_decide_eq_true g3) (by omega)) (fun g3 => ?_)
  refine RL.gp rfl rfl rfl rfl g3 rfl rfl rfl (by first | exact PV_fieldAddr0 rfl rfl fa39_1 | exact PV_fieldAddr rfl rfl fa39_1) ?_
  refine RL.gs rfl rfl rfl rfl g3 rfl rfl rfl (PV_loadM1 rfl ag3 rfl (by first | exact m0 | exact m1 | exact m2 | exact m3 | exact m4 | exact m5 | exact mapp m0 | exact mapp m1 | exact mapp m2 | exact mapp m3) (by first | exact tc_34 | exact tc_35 | exact tc_36 | exact tc_0 | exact tc_1 | rfl)) hs1 ?_
  refine RL.gp rfl rfl rfl rfl g3 rfl rfl rfl (by first | exact PV_fieldAddr0 rfl rfl fa39_0 | exact PV_fieldAddr rfl rfl fa39_0) ?_
  refine RL.gs rfl rfl rfl rfl g3 rfl rfl rfl (PV_loadM1 rfl ag37 rfl (by first | exact m0 | exact m1 | exact m2 | exact m3 | exact m4 | exact m5 | exact mapp m0 | exact mapp m1 | exact mapp m2 | exact mapp m3) (by first | exact tc_34 | exact tc_35 | exact tc_36 | exact tc_0 | exact tc_1 | rfl)) hs1 ?_
  refine RL.gp rfl rfl rfl rfl g3 rfl rfl rfl (PV_len rfl Tryz.underlying37 rfl) ?_
  refine RL.gp rfl rfl rfl rfl g3 rfl rfl rfl (PV_gtr rfl rfl rfl) ?_
  refine RL.p rfl rfl rfl (PV_pickF rfl rfl g3 rfl) ?_
  refine RL.done (nxt ?_)
  repeat first | apply W.seq | apply W.region
  refine W.cond rfl (fun h1 => ?_) (fun h1 => ?_)
  · exact absurd (of_decide_eq_true h1) (by omega)
  refine W.skip (nxt ?_)
  repeat first | apply W.seq | apply W.region
  refine RL.p rfl rfl rfl (PV_assign rfl rfl) ?_
  refine RL.done (nxt ?_)
  repeat first | apply W.seq | apply W.region
  refine W.block ?_
  repeat first | apply W.seq | apply W.region
  refine W.loop (F := fun i : Nat => [(3, .int .i64 (i : Int)), (1, ptr b1 0)]) (J := fun i w => i ≤ 1 ∧ Sat G ((b1, [.slice (some ⟨b, off, none⟩) 1 c, .int .i64 1], 39) :: M) I w) (m := fun i => 1 - i) 0 (by repeat first | exact Sub.nil | refine Sub.cons rfl ?_) ⟨by omega, hs1⟩ ?_
  rintro i w2 ⟨hi, hs2⟩
  repeat first | apply W.seq | apply W.region
  refine RL.p rfl rfl rfl (PV_move rfl rfl) ?_
  refine RL.p rfl rfl rfl (by first | exact PV_fieldAddr0 rfl rfl fa39_0 | exact PV_fieldAddr rfl rfl fa39_0) ?_
  refine RL.s rfl rfl rfl (PV_loadM1 rfl ag37 rfl (by first | exact m0 | exact m1 | exact m2 | exact m3 | exact m4 | exact m5 | exact mapp m0 | exact mapp m1 | exact mapp m2 | exact mapp m3) (by first | exact tc_34 | exact tc_35 | exact tc_36 | exact tc_0 | exact tc_1 | rfl)) hs2 ?_
  refine RL.p rfl rfl rfl (PV_len rfl Tryz.underlying37 rfl) ?_
  refine RL.p rfl rfl rfl (PV_lss rfl rfl rfl) ?_
  refine RL.done (nxt ?_)
  repeat first | apply W.seq | apply W.region
  refine W.cond rfl (fun h2 => ?_) (fun h2 => ?_)
  ·
    obtain rfl : i = 0 := by have := of_decide_eq_true h2; omega
    refine W.skip (nxt ?_)
    repeat first | apply W.seq | apply W.region
    refine W.block ?_
    repeat first | apply W.seq | apply W.region
    refine RL.p rfl rfl rfl (PV_assign rfl rfl) ?_
    refine RL.done (nxt ?_)
    repeat first | apply W.seq | apply W.region
    refine W.block ?_
    repeat first | apply W.seq | apply W.region
    refine W.loop (F := fun _ : Unit => [(4, .int .i64 0), (3, .int .i64 ((0 : Nat) : Int)), (1, ptr b1 0)]) (J := fun _ w => Sat G ((b1, [.slice (some ⟨b, off, none⟩) 1 c, .int .i64 1], 39) :: M) I w) (m := fun _ => 0) () (by repeat first | exact Sub.nil | refine Sub.cons rfl ?_) hs2 ?_
    rintro _ w3 hs3
    repeat first | apply W.seq | apply W.region
    refine RL.p rfl rfl rfl (PV_move rfl rfl) ?_
    refine RL.p rfl rfl rfl (PV_move rfl rfl) ?_
    refine RL.p rfl rfl rfl (PV_lss rfl rfl rfl) ?_
    refine RL.done (nxt ?_)
    repeat first | apply W.seq | apply W.region
    refine W.cond rfl (fun h3 => ?_) (fun h3 => ?_)
    · exact absurd (of_decide_eq_true h3) (by omega)
    repeat first | apply W.seq | apply W.region
    refine W.exit (nxt ?_)
    repeat first | apply W.seq | apply W.region
    refine RL.p rfl rfl rfl (PV_move rfl rfl) ?_
    refine RL.p rfl rfl rfl (PV_add rfl rfl rfl (by omega)) ?_
    refine RL.p rfl rfl rfl (PV_assign rfl rfl) ?_
    refine RL.done (round_end 1 ?_ ?_ ?_)
    · repeat first | exact Sub.nil | refine Sub.cons rfl ?_
    · exact ⟨by omega, hs3⟩
    · first | omega | (dsimp only; omega)
  repeat first | apply W.seq | apply W.region
  refine W.exit (nxt ?_)
  repeat first | apply W.seq | apply W.region
  refine RL.p rfl rfl rfl (PV_assign rfl rfl) ?_
  refine RL.done (nxt ?_)
  repeat first | apply W.seq | apply W.region
  exact W.ret (ret_tmp rfl rfl ⟨_, rfl, rfl, hs2.tail⟩)

theorem C143 {v e : Int} {ks : Nat → Value} {hh : Nat → List UInt8} (hv : isVersionB v = true) (he : isNumB e = true) (h32 : ∀ j, j < 4 → (hh j).length = 32) (hk : ∀ j, j < 4 → SlM G M I 32 (ks j) 1 (bcells (hh j))) (hs : Sat G M I w) : Calls Tryz.prog 143 #[aggL (rcells v e ks)] w (Ret fun r w' => r = .bool true ∧ Sat G M I w') := by
  refine enter1 Tryz.func143 rfl Tryz.ntmps143 rfl ?_
  repeat first | apply W.seq | apply W.region
  refine RL.e rfl rfl rfl (EF_boxA rfl rfl hs) ?_
  rintro r1 w1 ⟨b1, rfl, hs1⟩
  refine RL.p rfl rfl rfl (PV_assign rfl rfl) ?_
  refine RL.done (nxt ?_)
  repeat first | apply W.seq | apply W.region
  refine RL.p rfl rfl rfl (PV_assign rfl rfl) ?_
  refine RL.done (nxt ?_)
  repeat first | apply W.seq | apply W.region
  refine W.block ?_
  repeat first | apply W.seq | apply W.region
  refine W.loop (F := fun i : Nat => [(3, .int .i64 (i : Int)), (1, ptr b1 0)]) (J := fun i w => i ≤ 4 ∧ Sat G ((b1, rcells v e ks, 42) :: M) I w) (m := fun i => 4 - i) 0 (by repeat first | exact Sub.nil | refine Sub.cons rfl ?_) ⟨by omega, hs1⟩ ?_
  rintro i w2 ⟨hi, hs2⟩
  repeat first | apply W.seq | apply W.region
  refine RL.p rfl rfl rfl (PV_move rfl rfl) ?_
  refine RL.p rfl rfl rfl (PV_lss rfl rfl rfl) ?_
  refine RL.done (nxt ?_)
  repeat first | apply W.seq | apply W.region
  refine W.cond rfl (fun h1 => ?_) (fun h1 => ?_)
  ·
    have hi1 : i < 4 := by have := of_decide_eq_true h1; omega
    refine W.skip (nxt ?_)
    repeat first | apply W.seq | apply W.region
    refine W.block ?_
    repeat first | apply W.seq | apply W.region
    refine RL.p rfl rfl rfl (PV_move rfl rfl) ?_
    refine RL.p rfl rfl rfl (by first | exact PV_fieldAddr0 rfl rfl fa42_2 | exact PV_fieldAddr rfl rfl fa42_2) ?_
    refine RL.p rfl rfl rfl (PV_indexArr rfl Tryz.underlying40 sz39 rfl rfl rfl (by omega)) ?_
    refine RL.s rfl rfl rfl (PV_loadMA rfl ag39 sz39 rfl (by first | exact m0 | exact m1 | exact m2 | exact m3 | exact m4 | exact m5 | exact mapp m0 | exact mapp m1 | exact mapp m2 | exact mapp m3) (by show _ ≤ 10; omega) (role_part hi1)) hs2 ?_
    refine RL.e rfl rfl rfl (K1 rfl fn125 rfl (C125 (h32 i hi1) ((hk i hi1).mono fun _ h => h.tail) hs2)) ?_
    rintro r3 w3 ⟨rfl, hs3⟩
    refine RL.p rfl rfl rfl (PV_not rfl rfl) ?_
    refine RL.done (nxt ?_)
    repeat first | apply W.seq | apply W.region
    refine W.cond rfl (fun h2 => ?_) (fun h2 => ?_)
    · cases h2
    refine W.skip (nxt ?_)
    repeat first | apply W.seq | apply W.region
    refine RL.p rfl rfl rfl (PV_move rfl rfl) ?_
    refine RL.p rfl rfl rfl (PV_add rfl rfl rfl (by omega)) ?_
    refine RL.p rfl rfl rfl (PV_assign rfl rfl) ?_
    refine RL.done (round_end (i + 1) ?_ ?_ ?_)
    · repeat first | exact Sub.nil | refine Sub.cons rfl ?_
    · exact ⟨by omega, hs3⟩
    · first | omega | (dsimp only; omega)
  repeat first | apply W.seq | apply W.region
  refine W.exit (nxt ?_)
  repeat first | apply W.seq | apply W.region
  refine RL.p rfl rfl rfl (by first | exact PV_fieldAddr0 rfl rfl fa42_0 | exact PV_fieldAddr rfl rfl fa42_0) ?_
  refine RL.s rfl rfl rfl (PV_loadM1 rfl ag3 rfl (by first | exact m0 | exact m1 | exact m2 | exact m3 | exact m4 | exact m5 | exact mapp m0 | exact mapp m1 | exact mapp m2 | exact mapp m3) (by first | exact tc_34 | exact tc_35 | exact tc_36 | exact tc_0 | exact tc_1 | rfl)) hs2 ?_
  refine RL.e rfl rfl rfl (K1 rfl fn167 rfl (C167 hv hs2)) ?_
  rintro r3 w3 ⟨rfl, hs3⟩
  refine RL.p rfl rfl rfl (PV_move rfl rfl) ?_
  refine RL.split 17 rfl (fun g1 => ?_) (fun g1 => by (first | (cases g1; done) | exact absurd (of_decide_eq_false g1) (by omega)))
  refine RL.gp rfl rfl rfl rfl g1 rfl rfl rfl (by first | exact PV_fieldAddr0 rfl rfl fa42_1 | exact PV_fieldAddr rfl rfl fa42_1) ?_
  refine RL.gs rfl rfl rfl rfl g1 rfl rfl rfl (PV_loadM1 rfl ag3 rfl (by first | exact m0 | exact m1 | exact m2 | exact m3 | exact m4 | exact m5 | exact mapp m0 | exact mapp m1 | exact mapp m2 | exact mapp m3) (by first | exact tc_34 | exact tc_35 | exact tc_36 | exact tc_0 | exact tc_1 | rfl)) hs3 ?_
  refine RL.ge rfl rfl rfl rfl g1 rfl rfl rfl (EF_bs1c rfl el178 rfl rfl hs3) ?_
  rintro r4 w4 ⟨b20, rfl, hs4⟩
  refine RL.ge rfl rfl rfl rfl g1 rfl rfl rfl (K1 rfl fn168 rfl (C168 he m0 hs4)) ?_
  rintro r5 w5 ⟨rfl, hs5⟩
  refine RL.p rfl rfl rfl (PV_pickT rfl rfl g1 rfl) ?_
  refine RL.p rfl rfl rfl (PV_assign rfl rfl) ?_
  refine RL.done (nxt ?_)
  repeat first | apply W.seq | apply W.region
  exact W.ret (ret_tmp rfl rfl ⟨_, rfl, rfl, hs5.tail.tail⟩)

theorem C147 {v e sn : Int} {h : List UInt8} (hv : isVersionB v = true) (he : isNumB e = true) (hn : isVersionB sn = true) (hs : Sat G M I w) : Calls Tryz.prog 147 #[aggL (.int .i64 v :: .int .i64 e :: .int .i64 sn :: bcells h)] w (Ret fun r w' => r = .bool true ∧ Sat G M I w') := by
  refine enter1 Tryz.func147 rfl Tryz.ntmps147 rfl ?_
  repeat first | apply W.seq | apply W.region
  refine RL.e rfl rfl rfl (EF_boxA rfl rfl hs) ?_
  rintro r1 w1 ⟨b1, rfl, hs1⟩
  refine RL.p rfl rfl rfl (PV_assign rfl rfl) ?_
  refine RL.done (nxt ?_)
  repeat first | apply W.seq | apply W.region
  refine RL.p rfl rfl rfl (by first | exact PV_fieldAddr0 rfl rfl fa45_0 | exact PV_fieldAddr rfl rfl fa45_0) ?_
  refine RL.s rfl rfl rfl (PV_loadM1 rfl ag3 rfl (by first | exact m0 | exact m1 | exact m2 | exact m3 | exact m4 | exact m5 | exact mapp m0 | exact mapp m1 | exact mapp m2 | exact mapp m3) (by first | exact tc_34 | exact tc_35 | exact tc_36 | exact tc_0 | exact tc_1 | rfl)) hs1 ?_
  refine RL.e rfl rfl rfl (K1 rfl fn167 rfl (C167 hv hs1)) ?_
  rintro r2 w2 ⟨rfl, hs2⟩
  refine RL.p rfl rfl rfl (PV_move rfl rfl) ?_
  refine RL.split 6 rfl (fun g1 => ?_) (fun g1 => by (first | (cases g1; done) | exact absurd (of_decide_eq_false g1) (by omega)))
  refine RL.gp rfl rfl rfl rfl g1 rfl rfl rfl (by first | exact PV_fieldAddr0 rfl rfl fa45_1 | exact PV_fieldAddr rfl rfl fa45_1) ?_
  refine RL.gs rfl rfl rfl rfl g1 rfl rfl rfl (PV_loadM1 rfl ag3 rfl (by first | exact m0 | exact m1 | exact m2 | exact m3 | exact m4 | exact m5 | exact mapp m0 | exact mapp m1 | exact mapp m2 | exact mapp m3) (by first | exact tc_34 | exact tc_35 | exact tc_36 | exact tc_0 | exact tc_1 | rfl)) hs2 ?_
  refine RL.ge rfl rfl rfl rfl g1 rfl rfl rfl (EF_bs1c rfl el178 rfl rfl hs2) ?_
  rintro r3 w3 ⟨b9, rfl, hs3⟩
  refine RL.ge rfl rfl rfl rfl g1 rfl rfl rfl (K1 rfl fn168 rfl (C168 he m0 hs3)) ?_
  rintro r4 w4 ⟨rfl, hs4⟩
  refine RL.p rfl rfl rfl (PV_pickT rfl rfl g1 rfl) ?_
  refine RL.p rfl rfl rfl (PV_move rfl rfl) ?_
  refine RL.split 12 rfl (fun g2 => ?_) (fun g2 => by (first | (cases g2; done) | exact absurd (of_decide_eq_false g2) (by omega)))
  refine RL.gp rfl rfl rfl rfl g2 rfl rfl rfl (by first | exact PV_fieldAddr0 rfl rfl fa45_2 | exact PV_fieldAddr rfl rfl fa45_2) ?_
  refine RL.gs rfl rfl rfl rfl g2 rfl rfl rfl (PV_loadM1 rfl ag3 rfl (by first | exact m0 | exact m1 | exact m2 | exact m3 | exact m4 | exact m5 | exact mapp m0 | exact mapp m1 | exact mapp m2 | exact mapp m3) (by first | exact tc_34 | exact tc_35 | exact tc_36 | exact tc_0 | exact tc_1 | rfl)) hs4 ?_
  refine RL.ge rfl rfl rfl rfl g2 rfl rfl rfl (K1 rfl fn167 rfl (C167 hn hs4)) ?_
  rintro r5 w5 ⟨rfl, hs5⟩
  refine RL.p rfl rfl rfl (PV_pickT rfl rfl g2 rfl) ?_
  refine RL.p rfl rfl rfl (PV_assign rfl rfl) ?_
  refine RL.done (nxt ?_)
  repeat first | apply W.seq | apply W.region
  exact W.ret (ret_tmp rfl rfl ⟨_, rfl, rfl, hs5.tail.tail⟩)

theorem C150 {s : ByteArray} {v e x : Int} {pv : Value} (hn : nameB s = true) (hx : isVersionB x = true) (hv : isVersionB v = true) (he : isNumB e = true) (hp : SlM G M I 2 pv 1 [.string s, .int .i64 x]) (hs : Sat G M I w) : Calls Tryz.prog 150 #[aggL [.int .i64 v, .int .i64 e, pv]] w (Ret fun r w' => r = .bool true ∧ Sat G M I w') := by
  obtain ⟨b, off, c, rfl, hc, hmem⟩ := hp.elem (by omega)
  refine enter1 Tryz.func150 rfl Tryz.ntmps150 rfl ?_
  repeat first | apply W.seq | apply W.region
  refine RL.e rfl rfl rfl (EF_boxA rfl rfl hs) ?_
  rintro r1 w1 ⟨b1, rfl, hs1⟩
  refine RL.p rfl rfl rfl (PV_assign rfl rfl) ?_
  refine RL.done (nxt ?_)
  repeat first | apply W.seq | apply W.region
  refine RL.p rfl rfl rfl (PV_assign rfl rfl) ?_
  refine RL.done (nxt ?_)
  repeat first | apply W.seq | apply W.region
  refine W.block ?_
  repeat first | apply W.seq | apply W.region
  refine W.loop (F := fun i : Nat => [(3, .int .i64 (i : Int)), (1, ptr b1 0)]) (J := fun i w => i ≤ 1 ∧ Sat G ((b1, [.int .i64 v, .int .i64 e, .slice (some ⟨b, off, none⟩) 1 c], 48) :: M) I w) (m := fun i => 1 - i) 0 (by repeat first | exact Sub.nil | refine Sub.cons rfl ?_) ⟨by omega, hs1⟩ ?_
  rintro i w2 ⟨hi, hs2⟩
  repeat first | apply W.seq | apply W.region
  refine RL.p rfl rfl rfl (PV_move rfl rfl) ?_
  refine RL.p rfl rfl rfl (by first | exact PV_fieldAddr0 rfl rfl fa48_2 | exact PV_fieldAddr rfl rfl fa48_2) ?_
  refine RL.s rfl rfl rfl (PV_loadM1 rfl ag46 rfl (by first | exact m0 | exact m1 | exact m2 | exact m3 | exact m4 | exact m5 | exact mapp m0 | exact mapp m1 | exact mapp m2 | exact mapp m3) (by first | exact tc_34 | exact tc_35 | exact tc_36 | exact tc_0 | exact tc_1 | rfl)) hs2 ?_
  refine RL.p rfl rfl rfl (PV_len rfl Tryz.underlying46 rfl) ?_
  refine RL.p rfl rfl rfl (PV_lss rfl rfl rfl) ?_
  refine RL.done (nxt ?_)
  repeat first | apply W.seq | apply W.region
  refine W.cond rfl (fun h1 => ?_) (fun h1 => ?_)
  ·
    obtain rfl : i = 0 := by have := of_decide_eq_true h1; omega
    refine W.skip (nxt ?_)
    repeat first | apply W.seq | apply W.region
    refine W.block ?_
    repeat first | apply W.seq | apply W.region
    refine W.drawsH hs2 [(0, true), (1, true), (2, false), (3, false), (4, false), (5, false), (6, false), (7, false), (8, false), (9, true), (10, true), (11, false), (12, false), (13, false), (14, false), (15, false), (16, false), (17, false), (18, false), (19, false), (20, false), (21, false), (22, true), (23, true), (24, true), (25, true), (26, true), (27, true), (28, true), (29, true), (30, true), (31, false), (32, false), (33, false), (34, false), (35, false), (36, false), (37, false)] mixed (by kernel_rfl) (by kernel_rfl) ?_
    have hs3 := hs2.drew
    refine TW.p rfl rfl rfl rfl (by first | exact PV_fieldAddr0 rfl rfl fa48_2 | exact PV_fieldAddr rfl rfl fa48_2) hs3 ?_
    refine TW.s rfl rfl rfl rfl (PV_loadM1 rfl ag46 rfl (by first | exact m0 | exact m1 | exact m2 | exact m3 | exact m4 | exact m5 | exact mapp m0 | exact mapp m1 | exact mapp m2 | exact mapp m3) (by first | exact tc_34 | exact tc_35 | exact tc_36 | exact tc_0 | exact tc_1 | rfl)) hs3 ?_
    refine TW.q rfl rfl rfl rfl (T := fun _ => True) (PV_move rfl rfl) trivial (fun _ => hs3) ?_
    refine TW.q rfl rfl rfl rfl (T := fun _ => True) (PV_indexAddr rfl Tryz.underlying46 sz98 rfl rfl rfl (by omega)) trivial (fun _ => hs3) ?_
    refine TW.q rfl rfl rfl rfl (T := fun _ => True) (by first | exact PV_fieldAddr0 rfl rfl fa98_0 | exact PV_fieldAddr rfl rfl fa98_0) trivial (fun _ => hs3) ?_
    refine TW.q rfl rfl rfl rfl (PV_loadMem1 (j := 0) rfl ag9 rfl (fun _ h => h.tail) hmem rfl) hs3 (fun _ => hs3) ?_
    refine TW.e rfl rfl rfl rfl (K1 rfl fn173 rfl (C173 hn hs3)) ?_
    rintro r4 w4 ⟨rfl, hs4⟩
    refine ⟨hs4, ?_⟩
    refine TW.q rfl rfl rfl rfl (T := fun _ => True) (PV_not rfl rfl) trivial (fun _ => hs4) ?_
    refine TW.q rfl rfl rfl rfl (T := fun _ => True) (PV_move rfl rfl) trivial (fun _ => hs4) ?_
    refine TW.split 19 rfl (fun g1 => by cases g1) (fun g1 => ?_)
    refine TW.gp rfl rfl rfl rfl rfl g1 rfl rfl rfl (by first | exact PV_fieldAddr0 rfl rfl fa48_2 | exact PV_fieldAddr rfl rfl fa48_2) hs4 ?_
    refine TW.gs rfl rfl rfl rfl rfl g1 rfl rfl rfl (PV_loadM1 rfl ag46 rfl (by first | exact m0 | exact m1 | exact m2 | exact m3 | exact m4 | exact m5 | exact mapp m0 | exact mapp m1 | exact mapp m2 | exact mapp m3) (by first | exact tc_34 | exact tc_35 | exact tc_36 | exact tc_0 | exact tc_1 | rfl)) hs4 ?_
    refine TW.gq rfl rfl rfl rfl rfl g1 rfl rfl rfl (T := fun _ => True) (PV_move rfl rfl) trivial (fun _ => hs4) ?_
    refine TW.gq rfl rfl rfl rfl rfl g1 rfl rfl rfl (T := fun _ => True) (PV_indexAddr rfl Tryz.underlying46 sz98 rfl rfl rfl (by omega)) trivial (fun _ => hs4) ?_
    refine TW.gq rfl rfl rfl rfl rfl g1 rfl rfl rfl (T := fun _ => True) (by first | exact PV_fieldAddr0 rfl rfl fa98_1 | exact PV_fieldAddr rfl rfl fa98_1) trivial (fun _ => hs4) ?_
    refine TW.gq rfl rfl rfl rfl rfl g1 rfl rfl rfl (PV_loadMem1 (j := 1) rfl ag3 rfl (fun _ h => h.tail) hmem rfl) hs4 (fun _ => hs4) ?_
    refine TW.ge rfl rfl rfl rfl rfl g1 rfl rfl rfl (K1 rfl fn167 rfl (C167 hx hs4)) ?_
    rintro r5 w5 ⟨rfl, hs5⟩
    refine ⟨hs5, ?_⟩
    refine TW.gq rfl rfl rfl rfl rfl g1 rfl rfl rfl (T := fun _ => True) (PV_not rfl rfl) trivial (fun _ => hs5) ?_
    refine TW.q rfl rfl rfl rfl (T := fun _ => True) (PV_pickF rfl rfl g1 rfl) trivial (fun _ => hs5) ?_
    refine TW.q rfl rfl rfl rfl (T := fun _ => True) (PV_move rfl rfl) trivial (fun _ => hs5) ?_
    refine TW.split 29 rfl (fun g2 => by cases g2) (fun g2 => ?_)
    refine TW.gq rfl rfl rfl rfl rfl g2 rfl rfl rfl (T := fun _ => True) (PV_move rfl rfl) trivial (fun _ => hs5) ?_
    refine TW.gq rfl rfl rfl rfl rfl g2 rfl rfl rfl (T := fun _ => True) (PV_gtr rfl rfl rfl) trivial (fun _ => hs5) ?_
    refine TW.gq rfl rfl rfl rfl rfl g2 rfl rfl rfl (T := fun _ => True) (PV_move rfl rfl) trivial (fun _ => hs5) ?_
    refine TW.split 32 rfl (fun g3 => by exact absurd (of_decide_eq_true g3) (by omega)) (fun g3 => ?_)
    refine TW.gk rfl rfl rfl rfl rfl g3 rfl rfl rfl hs5 ?_
    refine TW.gk rfl rfl rfl rfl rfl g3 rfl rfl rfl hs5 ?_
    refine TW.gk rfl rfl rfl rfl rfl g3 rfl rfl rfl hs5 ?_
    refine TW.gk rfl rfl rfl rfl rfl g3 rfl rfl rfl hs5 ?_
    refine TW.gk rfl rfl rfl rfl rfl g3 rfl rfl rfl hs5 ?_
    refine TW.gk rfl rfl rfl rfl rfl g3 rfl rfl rfl hs5 ?_
    refine TW.gk rfl rfl rfl rfl rfl g3 rfl rfl rfl hs5 ?_
    refine TW.gk rfl rfl rfl rfl rfl g3 rfl rfl rfl hs5 ?_
    refine TW.gk rfl rfl rfl rfl rfl g3 rfl rfl rfl hs5 ?_
    refine TW.gkf rfl rfl rfl rfl rfl g3 rfl rfl rfl hs5 ?_
    refine TW.gkf rfl rfl rfl rfl rfl g3 rfl rfl rfl hs5 ?_
    refine TW.gkf rfl rfl rfl rfl rfl g3 rfl rfl rfl hs5 ?_
    refine TW.gkf rfl rfl rfl rfl rfl g3 rfl rfl rfl hs5 ?_
    refine TW.gkf rfl rfl rfl rfl rfl g3 rfl rfl rfl hs5 ?_
    refine TW.gq rfl rfl rfl rfl rfl g2 rfl rfl rfl (T := fun _ => True) (PV_pickF rfl rfl g3 rfl) trivial (fun _ => hs5) ?_
    refine TW.q rfl rfl rfl rfl (T := fun _ => True) (PV_pickF rfl rfl g2 rfl) trivial (fun _ => hs5) ?_
    refine TW.done (nxt ?_)
    repeat first | apply W.seq | apply W.region
    refine W.cond rfl (fun h2 => ?_) (fun h2 => ?_)
    · cases h2
    refine W.skip (nxt ?_)
    repeat first | apply W.seq | apply W.region
    refine RL.p rfl rfl rfl (PV_move rfl rfl) ?_
    refine RL.p rfl rfl rfl (PV_add rfl rfl rfl (by omega)) ?_
    refine RL.p rfl rfl rfl (PV_assign rfl rfl) ?_
    refine RL.done (round_end 1 ?_ ?_ ?_)
    · repeat first | exact Sub.nil | refine Sub.cons rfl ?_
    · exact ⟨by omega, hs5⟩
    · first | omega | (dsimp only; omega)
  repeat first | apply W.seq | apply W.region
  refine W.exit (nxt ?_)
  repeat first | apply W.seq | apply W.region
  refine RL.p rfl rfl rfl (by first | exact PV_fieldAddr0 rfl rfl fa48_0 | exact PV_fieldAddr rfl rfl fa48_0) ?_
  refine RL.s rfl rfl rfl (PV_loadM1 rfl ag3 rfl (by first | exact m0 | exact m1 | exact m2 | exact m3 | exact m4 | exact m5 | exact mapp m0 | exact mapp m1 | exact mapp m2 | exact mapp m3) (by first | exact tc_34 | exact tc_35 | exact tc_36 | exact tc_0 | exact tc_1 | rfl)) hs2 ?_
  refine RL.e rfl rfl rfl (K1 rfl fn167 rfl (C167 hv hs2)) ?_
  rintro r3 w3 ⟨rfl, hs3⟩
  refine RL.p rfl rfl rfl (PV_move rfl rfl) ?_
  refine RL.split 52 rfl (fun g4 => ?_) (fun g4 => by (first | (cases g4; done) | exact absurd (of_decide_eq_false g4) (by omega)))
  refine RL.gp rfl rfl rfl rfl g4 rfl rfl rfl (by first | exact PV_fieldAddr0 rfl rfl fa48_1 | exact PV_fieldAddr rfl rfl fa48_1) ?_
  refine RL.gs rfl rfl rfl rfl g4 rfl rfl rfl (PV_loadM1 rfl ag3 rfl (by first | exact m0 | exact m1 | exact m2 | exact m3 | exact m4 | exact m5 | exact mapp m0 | exact mapp m1 | exact mapp m2 | exact mapp m3) (by first | exact tc_34 | exact tc_35 | exact tc_36 | exact tc_0 | exact tc_1 | rfl)) hs3 ?_
  refine RL.ge rfl rfl rfl rfl g4 rfl rfl rfl (EF_bs1c rfl el178 rfl rfl hs3) ?_
  rintro r4 w4 ⟨b55, rfl, hs4⟩
  refine RL.ge rfl rfl rfl rfl g4 rfl rfl rfl (K1 rfl fn168 rfl (C168 he m0 hs4)) ?_
  rintro r5 w5 ⟨rfl, hs5⟩
  refine RL.p rfl rfl rfl (PV_pickT rfl rfl g4 rfl) ?_
  refine RL.p rfl rfl rfl (PV_move rfl rfl) ?_
  refine RL.split 58 rfl (fun g5 => ?_) (fun g5 => by (first | (cases g5; done) | exact absurd (of_decide_eq_false g5) (by omega)))
  refine RL.gp rfl rfl rfl rfl g5 rfl rfl rfl (by first | exact PV_fieldAddr0 rfl rfl fa48_2 | exact PV_fieldAddr rfl rfl fa48_2) ?_
  refine RL.gs rfl rfl rfl rfl g5 rfl rfl rfl (PV_loadM1 rfl ag46 rfl (by first | exact m0 | exact m1 | exact m2 | exact m3 | exact m4 | exact m5 | exact mapp m0 | exact mapp m1 | exact mapp m2 | exact mapp m3) (by first | exact tc_34 | exact tc_35 | exact tc_36 | exact tc_0 | exact tc_1 | rfl)) hs5 ?_
  refine RL.gp rfl rfl rfl rfl g5 rfl rfl rfl (PV_len rfl Tryz.underlying46 rfl) ?_
  refine RL.gp rfl rfl rfl rfl g5 rfl rfl rfl (PV_leq rfl rfl rfl) ?_
  refine RL.p rfl rfl rfl (PV_pickT rfl rfl g5 rfl) ?_
  refine RL.p rfl rfl rfl (PV_assign rfl rfl) ?_
  refine RL.done (nxt ?_)
  repeat first | apply W.seq | apply W.region
  exact W.ret (ret_tmp rfl rfl ⟨_, rfl, rfl, hs5.tail.tail⟩)

theorem C175 {t : Tgt} (h : targetB t = true) (hs : Sat G M I w) : Calls Tryz.prog 175 #[aggL (tcells t)] w (Ret fun r w' => r = .bool true ∧ Sat G M I w') := by
  obtain ⟨hn, hz0, hz1, hw, hc, he⟩ := target_in h
  refine enter1 Tryz.func175 rfl Tryz.ntmps175 rfl ?_
  repeat first | apply W.seq | apply W.region
  refine RL.e rfl rfl rfl (EF_boxA rfl rfl hs) ?_
  rintro r1 w1 ⟨b1, rfl, hs1⟩
  refine RL.p rfl rfl rfl (PV_assign rfl rfl) ?_
  refine RL.done (nxt ?_)
  repeat first | apply W.seq | apply W.region
  refine RL.p rfl rfl rfl (by first | exact PV_fieldAddr0 rfl rfl fa26_0 | exact PV_fieldAddr rfl rfl fa26_0) ?_
  refine RL.s rfl rfl rfl (PV_loadM1 rfl ag9 rfl (by first | exact m0 | exact m1 | exact m2 | exact m3 | exact m4 | exact m5 | exact mapp m0 | exact mapp m1 | exact mapp m2 | exact mapp m3) (by first | exact tc_34 | exact tc_35 | exact tc_36 | exact tc_0 | exact tc_1 | rfl)) hs1 ?_
  refine RL.e rfl rfl rfl (K1 rfl fn173 rfl (C173 hn hs1)) ?_
  rintro r2 w2 ⟨rfl, hs2⟩
  refine RL.p rfl rfl rfl (PV_move rfl rfl) ?_
  refine RL.split 6 rfl (fun g1 => ?_) (fun g1 => by (first | (cases g1; done) | exact absurd (of_decide_eq_false g1) (by omega)))
  refine RL.gp rfl rfl rfl rfl g1 rfl rfl rfl (by first | exact PV_fieldAddr0 rfl rfl fa26_1 | exact PV_fieldAddr rfl rfl fa26_1) ?_
  refine RL.gs rfl rfl rfl rfl g1 rfl rfl rfl (PV_loadM1 rfl ag3 rfl (by first | exact m0 | exact m1 | exact m2 | exact m3 | exact m4 | exact m5 | exact mapp m0 | exact mapp m1 | exact mapp m2 | exact mapp m3) (by first | exact tc_34 | exact tc_35 | exact tc_36 | exact tc_0 | exact tc_1 | rfl)) hs2 ?_
  refine RL.gp rfl rfl rfl rfl g1 rfl rfl rfl (PV_geq rfl rfl rfl) ?_
  refine RL.p rfl rfl rfl (PV_pickT rfl rfl g1 rfl) ?_
  refine RL.p rfl rfl rfl (PV_move rfl rfl) ?_
  refine RL.split 11 rfl (fun g2 => ?_) (fun g2 => by (first | (cases g2; done) | exact absurd (of_decide_eq_false g2) (by omega)))
  refine RL.gp rfl rfl rfl rfl g2 rfl rfl rfl (by first | exact PV_fieldAddr0 rfl rfl fa26_1 | exact PV_fieldAddr rfl rfl fa26_1) ?_
  refine RL.gs rfl rfl rfl rfl g2 rfl rfl rfl (PV_loadM1 rfl ag3 rfl (by first | exact m0 | exact m1 | exact m2 | exact m3 | exact m4 | exact m5 | exact mapp m0 | exact mapp m1 | exact mapp m2 | exact mapp m3) (by first | exact tc_34 | exact tc_35 | exact tc_36 | exact tc_0 | exact tc_1 | rfl)) hs2 ?_
  refine RL.gp rfl rfl rfl rfl g2 rfl rfl rfl (PV_leq rfl rfl rfl) ?_
  refine RL.p rfl rfl rfl (PV_pickT rfl rfl g2 rfl) ?_
  refine RL.p rfl rfl rfl (PV_move rfl rfl) ?_
  refine RL.split 16 rfl (fun g3 => ?_) (fun g3 => by (first | (cases g3; done) | exact absurd (of_decide_eq_false g3) (by omega)))
  refine RL.gp rfl rfl rfl rfl g3 rfl rfl rfl (by first | exact PV_fieldAddr0 rfl rfl fa26_3 | exact PV_fieldAddr rfl rfl fa26_3) ?_
  refine RL.gs rfl rfl rfl rfl g3 rfl rfl rfl (PV_loadM1 rfl ag9 rfl (by first | exact m0 | exact m1 | exact m2 | exact m3 | exact m4 | exact m5 | exact mapp m0 | exact mapp m1 | exact mapp m2 | exact mapp m3) (by first | exact tc_34 | exact tc_35 | exact tc_36 | exact tc_0 | exact tc_1 | rfl)) hs2 ?_
  refine RL.ge rfl rfl rfl rfl g3 rfl rfl rfl (K1 rfl fn173 rfl (C173 hw hs2)) ?_
  rintro r3 w3 ⟨rfl, hs3⟩
  refine RL.p rfl rfl rfl (PV_pickT rfl rfl g3 rfl) ?_
  refine RL.p rfl rfl rfl (PV_move rfl rfl) ?_
  refine RL.split 21 rfl (fun g4 => ?_) (fun g4 => by (first | (cases g4; done) | exact absurd (of_decide_eq_false g4) (by omega)))
  refine RL.gp rfl rfl rfl rfl g4 rfl rfl rfl (by first | exact PV_fieldAddr0 rfl rfl fa26_4 | exact PV_fieldAddr rfl rfl fa26_4) ?_
  refine RL.gs rfl rfl rfl rfl g4 rfl rfl rfl (PV_loadM1 rfl ag3 rfl (by first | exact m0 | exact m1 | exact m2 | exact m3 | exact m4 | exact m5 | exact mapp m0 | exact mapp m1 | exact mapp m2 | exact mapp m3) (by first | exact tc_34 | exact tc_35 | exact tc_36 | exact tc_0 | exact tc_1 | rfl)) hs3 ?_
  refine RL.ge rfl rfl rfl rfl g4 rfl rfl rfl (EF_bs1c rfl el178 rfl rfl hs3) ?_
  rintro r4 w4 ⟨b24, rfl, hs4⟩
  refine RL.ge rfl rfl rfl rfl g4 rfl rfl rfl (K1 rfl fn168 rfl (C168 hc m0 hs4)) ?_
  rintro r5 w5 ⟨rfl, hs5⟩
  refine RL.p rfl rfl rfl (PV_pickT rfl rfl g4 rfl) ?_
  refine RL.p rfl rfl rfl (PV_move rfl rfl) ?_
  refine RL.split 27 rfl (fun g5 => ?_) (fun g5 => by (first | (cases g5; done) | exact absurd (of_decide_eq_false g5) (by omega)))
  refine RL.gp rfl rfl rfl rfl g5 rfl rfl rfl (by first | exact PV_fieldAddr0 rfl rfl fa26_5 | exact PV_fieldAddr rfl rfl fa26_5) ?_
  refine RL.gs rfl rfl rfl rfl g5 rfl rfl rfl (PV_loadM1 rfl ag9 rfl (by first | exact m0 | exact m1 | exact m2 | exact m3 | exact m4 | exact m5 | exact mapp m0 | exact mapp m1 | exact mapp m2 | exact mapp m3) (by first | exact tc_34 | exact tc_35 | exact tc_36 | exact tc_0 | exact tc_1 | rfl)) hs5 ?_
  refine RL.gp rfl rfl rfl rfl g5 rfl rfl rfl (PV_eqs rfl rfl rfl) ?_
  refine RL.gp rfl rfl rfl rfl g5 rfl rfl rfl (PV_move rfl rfl) ?_
  refine RL.split 31 rfl (fun g6 => ?_) (fun g6 => ?_)
  ·
    refine RL.gk rfl rfl rfl rfl g6 rfl rfl rfl ?_
    refine RL.gk rfl rfl rfl rfl g6 rfl rfl rfl ?_
    refine RL.gk rfl rfl rfl rfl g6 rfl rfl rfl ?_
    refine RL.gp rfl rfl rfl rfl g5 rfl rfl rfl (PV_pickT rfl rfl g6 rfl) ?_
    refine RL.p rfl rfl rfl (PV_pickT rfl rfl g5 rfl) ?_
    refine RL.p rfl rfl rfl (PV_assign rfl rfl) ?_
    refine RL.done (nxt ?_)
    repeat first | apply W.seq | apply W.region
    exact W.ret (ret_tmp rfl rfl ⟨_, rfl, rfl, hs5.tail.tail⟩)
  ·
    refine RL.gp rfl rfl rfl rfl g6 rfl rfl rfl (by first | exact PV_fieldAddr0 rfl rfl fa26_5 | exact PV_fieldAddr rfl rfl fa26_5) ?_
    refine RL.gs rfl rfl rfl rfl g6 rfl rfl rfl (PV_loadM1 rfl ag9 rfl (by first | exact m0 | exact m1 | exact m2 | exact m3 | exact m4 | exact m5 | exact mapp m0 | exact mapp m1 | exact mapp m2 | exact mapp m3) (by first | exact tc_34 | exact tc_35 | exact tc_36 | exact tc_0 | exact tc_1 | rfl)) hs5 ?_
    refine RL.ge rfl rfl rfl rfl g6 rfl rfl rfl (K1 rfl fn173 rfl (C173 (he.resolve_left (by simpa using g6)) hs5)) ?_
    rintro r6 w6 ⟨rfl, hs6⟩
    refine RL.gp rfl rfl rfl rfl g5 rfl rfl rfl (PV_pickF rfl rfl g6 rfl) ?_
    refine RL.p rfl rfl rfl (PV_pickT rfl rfl g5 rfl) ?_
    refine RL.p rfl rfl rfl (PV_assign rfl rfl) ?_
    refine RL.done (nxt ?_)
    repeat first | apply W.seq | apply W.region
    exact W.ret (ret_tmp rfl rfl ⟨_, rfl, rfl, hs6.tail.tail⟩)

theorem C154 {s : ByteArray} {v e : Int} {lv : Value} {K : List Tgt} (h : targetsB s v e K = true) (hv : SlM G M I 37 lv K.length (lcells K)) (hs : Sat G M I w) : Calls Tryz.prog 154 #[aggL [.string s, .int .i64 v, .int .i64 e, lv, .slice none 0 0]] w (Ret fun r w' => r = .bool true ∧ Sat G M I w') := by
  obtain ⟨hn, hvv, he, h16, htg, hbef⟩ := targets_in h
  obtain ⟨A, c, rfl, hc⟩ := hv.shape
  refine enter1 Tryz.func154 rfl Tryz.ntmps154 rfl ?_
  repeat first | apply W.seq | apply W.region
  refine RL.e rfl rfl rfl (EF_boxA rfl rfl hs) ?_
  rintro r1 w1 ⟨b1, rfl, hs1⟩
  refine RL.p rfl rfl rfl (PV_assign rfl rfl) ?_
  refine RL.done (nxt ?_)
  repeat first | apply W.seq | apply W.region
  refine RL.p rfl rfl rfl (PV_assign rfl rfl) ?_
  refine RL.done (nxt ?_)
  repeat first | apply W.seq | apply W.region
  refine W.block ?_
  repeat first | apply W.seq | apply W.region
  refine W.loop (F := fun i : Nat => [(3, .int .i64 (i : Int)), (1, ptr b1 0)]) (J := fun i w => i ≤ K.length ∧ Sat G ((b1, [.string s, .int .i64 v, .int .i64 e, .slice A K.length c, .slice none 0 0], 70) :: M) I w) (m := fun i => K.length - i) 0 (by repeat first | exact Sub.nil | refine Sub.cons rfl ?_) ⟨by omega, hs1⟩ ?_
  rintro i w2 ⟨hi, hs2⟩
  repeat refine W.seq ?_
  refine W.cut (fun b : Bool => [(17, .bool b), (3, .int .i64 (i : Int)), (1, ptr b1 0)]) (fun b w => (b = true → i < K.length) ∧ (b = false → K.length ≤ i) ∧ Sat G ((b1, [.string s, .int .i64 v, .int .i64 e, .slice A K.length c, .slice none 0 0], 70) :: M) I w) ?_ ?_
  ·
    refine W.region ?_
    refine RL.p rfl rfl rfl (PV_move rfl rfl) ?_
    refine RL.p rfl rfl rfl (by first | exact PV_fieldAddr0 rfl rfl fa70_3 | exact PV_fieldAddr rfl rfl fa70_3) ?_
    refine RL.s rfl rfl rfl (PV_loadM1 rfl ag22 rfl (by first | exact m0 | exact m1 | exact m2 | exact m3 | exact m4 | exact m5 | exact mapp m0 | exact mapp m1 | exact mapp m2 | exact mapp m3) (by first | exact tc_34 | exact tc_35 | exact tc_36 | exact tc_0 | exact tc_1 | rfl)) hs2 ?_
    refine RL.p rfl rfl rfl (PV_len rfl Tryz.underlying22 rfl) ?_
    refine RL.p rfl rfl rfl (PV_lss rfl rfl rfl) ?_
    refine RL.p rfl rfl rfl (PV_move rfl rfl) ?_
    refine RL.split 12 rfl (fun g1 => ?_) (fun g1 => ?_)
    ·
      refine RL.gp rfl rfl rfl rfl g1 rfl rfl rfl (by first | exact PV_fieldAddr0 rfl rfl fa70_3 | exact PV_fieldAddr rfl rfl fa70_3) ?_
      refine RL.gs rfl rfl rfl rfl g1 rfl rfl rfl (PV_loadM1 rfl ag22 rfl (by first | exact m0 | exact m1 | exact m2 | exact m3 | exact m4 | exact m5 | exact mapp m0 | exact mapp m1 | exact mapp m2 | exact mapp m3) (by first | exact tc_34 | exact tc_35 | exact tc_36 | exact tc_0 | exact tc_1 | rfl)) hs2 ?_
      refine RL.gp rfl rfl rfl rfl g1 rfl rfl rfl (PV_len rfl Tryz.underlying22 rfl) ?_
      refine RL.gp rfl rfl rfl rfl g1 rfl rfl rfl (PV_leq rfl rfl rfl) ?_
      refine RL.p rfl rfl rfl (PV_pickT rfl rfl g1 rfl) ?_
      exact RL.done (cut_end (F := (fun b : Bool => [(17, .bool b), (3, .int .i64 (i : Int)), (1, ptr b1 0)])) (J := (fun b w => (b = true → i < K.length) ∧ (b = false → K.length ≤ i) ∧ Sat G ((b1, [.string s, .int .i64 v, .int .i64 e, .slice A K.length c, .slice none 0 0], 70) :: M) I w)) _ (by repeat first | exact Sub.nil | refine Sub.cons rfl ?_) (by exact (by first | exact ⟨fun _ => (by have := of_decide_eq_true g1; omega), fun h => absurd (of_decide_eq_false h) (by omega), hs2⟩ | exact ⟨fun h => (by cases h), fun _ => (by have := of_decide_eq_false g1; omega), hs2⟩)))
    ·
      refine RL.gk rfl rfl rfl rfl g1 rfl rfl rfl ?_
      refine RL.gk rfl rfl rfl rfl g1 rfl rfl rfl ?_
      refine RL.gk rfl rfl rfl rfl g1 rfl rfl rfl ?_
      refine RL.gk rfl rfl rfl rfl g1 rfl rfl rfl ?_
      refine RL.p rfl rfl rfl (PV_pickF rfl rfl g1 rfl) ?_
      exact RL.done (cut_end (F := (fun b : Bool => [(17, .bool b), (3, .int .i64 (i : Int)), (1, ptr b1 0)])) (J := (fun b w => (b = true → i < K.length) ∧ (b = false → K.length ≤ i) ∧ Sat G ((b1, [.string s, .int .i64 v, .int .i64 e, .slice A K.length c, .slice none 0 0], 70) :: M) I w)) _ (by repeat first | exact Sub.nil | refine Sub.cons rfl ?_) (by exact (by first | exact ⟨fun _ => (by have := of_decide_eq_true g1; omega), fun h => absurd (of_decide_eq_false h) (by omega), hs2⟩ | exact ⟨fun h => (by cases h), fun _ => (by have := of_decide_eq_false g1; omega), hs2⟩)))
  rintro b17 w102 ⟨hT, hF, hs102⟩
  refine nxt ?_
  repeat first | apply W.seq | apply W.region
  refine W.cond rfl (fun h1 => ?_) (fun h1 => ?_)
  ·
    have hi1 : i < K.length := hT h1
    obtain ⟨bb, off, c1, hab, hc1, hmem⟩ := hv.elem (by omega)
    simp only [Value.slice.injEq] at hab
    obtain ⟨rfl, -, rfl⟩ := hab
    obtain ⟨t, ht⟩ : ∃ t, K[i]? = some t := ⟨_, List.getElem?_eq_getElem hi1⟩
    obtain ⟨a, ha⟩ : ∃ a, 0 < i → K[i - 1]? = some a := ⟨K[i - 1]'(by omega), fun _ => List.getElem?_eq_getElem (by omega)⟩
    refine W.skip (nxt ?_)
    repeat first | apply W.seq | apply W.region
    refine W.block ?_
    repeat first | apply W.seq | apply W.region
    refine W.cut (fun b : Bool => [(45, .bool b), (3, .int .i64 (i : Int)), (1, ptr b1 0)]) (fun b w => b = false ∧ Sat G ((b1, [.string s, .int .i64 v, .int .i64 e, .slice (some ⟨bb, off, none⟩) K.length c, .slice none 0 0], 70) :: M) I w) ?_ ?_
    ·
      refine W.drawsH hs102 [(0, true), (1, true), (2, false), (3, false), (4, false), (5, false), (6, false), (7, false), (8, false), (9, false), (10, false), (11, true), (12, true), (13, true), (14, true), (15, true), (16, true), (17, true), (18, true), (19, false), (20, false), (21, false), (22, false), (23, false), (24, false), (25, false)] mixed (by kernel_rfl) (by kernel_rfl) ?_
      have hs103 := hs102.drew
      refine TW.p rfl rfl rfl rfl (by first | exact PV_fieldAddr0 rfl rfl fa70_3 | exact PV_fieldAddr rfl rfl fa70_3) hs103 ?_
      refine TW.s rfl rfl rfl rfl (PV_loadM1 rfl ag22 rfl (by first | exact m0 | exact m1 | exact m2 | exact m3 | exact m4 | exact m5 | exact mapp m0 | exact mapp m1 | exact mapp m2 | exact mapp m3) (by first | exact tc_34 | exact tc_35 | exact tc_36 | exact tc_0 | exact tc_1 | rfl)) hs103 ?_
      refine TW.q rfl rfl rfl rfl (T := fun _ => True) (PV_move rfl rfl) trivial (fun _ => hs103) ?_
      refine TW.q rfl rfl rfl rfl (T := fun _ => True) (PV_indexAddr rfl Tryz.underlying22 sz26 rfl rfl rfl (by omega)) trivial (fun _ => hs103) ?_
      refine TW.q rfl rfl rfl rfl (PV_loadMemA (r := tcells t) (j := i * 37) rfl ag26 sz26 rfl (fun _ h => h.tail) hmem (by rw [length_lcells]; omega) (part_lcells ht)) hs103 (fun _ => hs103) ?_
      refine TW.e rfl rfl rfl rfl (K1 rfl fn175 rfl (C175 (htg i t ht) hs103)) ?_
      rintro r104 w104 ⟨rfl, hs104⟩
      refine ⟨hs104, ?_⟩
      refine TW.q rfl rfl rfl rfl (T := fun _ => True) (PV_not rfl rfl) trivial (fun _ => hs104) ?_
      refine TW.q rfl rfl rfl rfl (T := fun _ => True) (PV_move rfl rfl) trivial (fun _ => hs104) ?_
      refine TW.split 27 rfl (fun g2 => by cases g2) (fun g2 => ?_)
      refine TW.gq rfl rfl rfl rfl rfl g2 rfl rfl rfl (T := fun _ => True) (PV_move rfl rfl) trivial (fun _ => hs104) ?_
      refine TW.gq rfl rfl rfl rfl rfl g2 rfl rfl rfl (T := fun _ => True) (PV_gtr rfl rfl rfl) trivial (fun _ => hs104) ?_
      refine TW.gq rfl rfl rfl rfl rfl g2 rfl rfl rfl (T := fun _ => True) (PV_move rfl rfl) trivial (fun _ => hs104) ?_
      refine TW.split 30 rfl (fun g3 => ?_) (fun g3 => ?_)
      ·
        refine TW.gp rfl rfl rfl rfl rfl g3 rfl rfl rfl (by first | exact PV_fieldAddr0 rfl rfl fa70_3 | exact PV_fieldAddr rfl rfl fa70_3) hs104 ?_
        refine TW.gs rfl rfl rfl rfl rfl g3 rfl rfl rfl (PV_loadM1 rfl ag22 rfl (by first | exact m0 | exact m1 | exact m2 | exact m3 | exact m4 | exact m5 | exact mapp m0 | exact mapp m1 | exact mapp m2 | exact mapp m3) (by first | exact tc_34 | exact tc_35 | exact tc_36 | exact tc_0 | exact tc_1 | rfl)) hs104 ?_
        refine TW.gp rfl rfl rfl rfl rfl g3 rfl rfl rfl (PV_move rfl rfl) hs104 ?_
        refine TW.gp rfl rfl rfl rfl rfl g3 rfl rfl rfl (PV_sub rfl rfl rfl (by omega)) hs104 ?_
        refine TW.gp rfl rfl rfl rfl rfl g3 rfl rfl rfl (PV_indexAddr (i := i - 1) rfl Tryz.underlying22 sz26 rfl rfl (by have := of_decide_eq_true g3; omega) (by omega)) hs104 ?_
        refine TW.gs rfl rfl rfl rfl rfl g3 rfl rfl rfl (PV_loadMemA (r := tcells a) (j := (i - 1) * 37) rfl ag26 sz26 rfl (fun _ h => h.tail) hmem (by rw [length_lcells]; omega) (part_lcells (ha (by have := of_decide_eq_true g3; omega)))) hs104 ?_
        refine TW.gp rfl rfl rfl rfl rfl g3 rfl rfl rfl (by first | exact PV_fieldAddr0 rfl rfl fa70_3 | exact PV_fieldAddr rfl rfl fa70_3) hs104 ?_
        refine TW.gs rfl rfl rfl rfl rfl g3 rfl rfl rfl (PV_loadM1 rfl ag22 rfl (by first | exact m0 | exact m1 | exact m2 | exact m3 | exact m4 | exact m5 | exact mapp m0 | exact mapp m1 | exact mapp m2 | exact mapp m3) (by first | exact tc_34 | exact tc_35 | exact tc_36 | exact tc_0 | exact tc_1 | rfl)) hs104 ?_
        refine TW.gq rfl rfl rfl rfl rfl g3 rfl rfl rfl (T := fun _ => True) (PV_move rfl rfl) trivial (fun _ => hs104) ?_
        refine TW.gq rfl rfl rfl rfl rfl g3 rfl rfl rfl (T := fun _ => True) (PV_indexAddr rfl Tryz.underlying22 sz26 rfl rfl rfl (by omega)) trivial (fun _ => hs104) ?_
        refine TW.gq rfl rfl rfl rfl rfl g3 rfl rfl rfl (PV_loadMemA (r := tcells t) (j := i * 37) rfl ag26 sz26 rfl (fun _ h => h.tail) hmem (by rw [length_lcells]; omega) (part_lcells ht)) hs104 (fun _ => hs104) ?_
        refine TW.ge rfl rfl rfl rfl rfl g3 rfl rfl rfl (K2 rfl fn10 rfl rfl (C10 hs104)) ?_
        rintro r105 w105 ⟨rfl, hs105⟩
        refine ⟨hs105, ?_⟩
        refine TW.gq rfl rfl rfl rfl rfl g3 rfl rfl rfl (T := fun _ => True) (PV_not rfl rfl) trivial (fun _ => hs105) ?_
        refine TW.gq rfl rfl rfl rfl rfl g2 rfl rfl rfl (T := fun _ => True) (PV_pickT rfl rfl g3 rfl) trivial (fun _ => hs105) ?_
        refine TW.q rfl rfl rfl rfl (T := fun _ => True) (PV_pickF rfl rfl g2 rfl) trivial (fun _ => hs105) ?_
        exact TW.done (cut_end (F := (fun b : Bool => [(45, .bool b), (3, .int .i64 (i : Int)), (1, ptr b1 0)])) (J := (fun b w => b = false ∧ Sat G ((b1, [.string s, .int .i64 v, .int .i64 e, .slice (some ⟨bb, off, none⟩) K.length c, .slice none 0 0], 70) :: M) I w)) _ (by repeat first | exact Sub.nil | refine Sub.cons rfl ?_) (by exact (by first | exact ⟨rfl, hs105⟩ | exact ⟨by rw [hbef _ _ _ (ha (by have := of_decide_eq_true g3; omega)) (by rw [Nat.sub_add_cancel (by have := of_decide_eq_true g3; omega)]; exact ht)]; rfl, hs105⟩)))
      ·
        refine TW.gk rfl rfl rfl rfl rfl g3 rfl rfl rfl hs104 ?_
        refine TW.gk rfl rfl rfl rfl rfl g3 rfl rfl rfl hs104 ?_
        refine TW.gk rfl rfl rfl rfl rfl g3 rfl rfl rfl hs104 ?_
        refine TW.gk rfl rfl rfl rfl rfl g3 rfl rfl rfl hs104 ?_
        refine TW.gk rfl rfl rfl rfl rfl g3 rfl rfl rfl hs104 ?_
        refine TW.gk rfl rfl rfl rfl rfl g3 rfl rfl rfl hs104 ?_
        refine TW.gk rfl rfl rfl rfl rfl g3 rfl rfl rfl hs104 ?_
        refine TW.gk rfl rfl rfl rfl rfl g3 rfl rfl rfl hs104 ?_
        refine TW.gkf rfl rfl rfl rfl rfl g3 rfl rfl rfl hs104 ?_
        refine TW.gkf rfl rfl rfl rfl rfl g3 rfl rfl rfl hs104 ?_
        refine TW.gkf rfl rfl rfl rfl rfl g3 rfl rfl rfl hs104 ?_
        refine TW.gkf rfl rfl rfl rfl rfl g3 rfl rfl rfl hs104 ?_
        refine TW.gkf rfl rfl rfl rfl rfl g3 rfl rfl rfl hs104 ?_
        refine TW.gq rfl rfl rfl rfl rfl g2 rfl rfl rfl (T := fun _ => True) (PV_pickF rfl rfl g3 rfl) trivial (fun _ => hs104) ?_
        refine TW.q rfl rfl rfl rfl (T := fun _ => True) (PV_pickF rfl rfl g2 rfl) trivial (fun _ => hs104) ?_
        exact TW.done (cut_end (F := (fun b : Bool => [(45, .bool b), (3, .int .i64 (i : Int)), (1, ptr b1 0)])) (J := (fun b w => b = false ∧ Sat G ((b1, [.string s, .int .i64 v, .int .i64 e, .slice (some ⟨bb, off, none⟩) K.length c, .slice none 0 0], 70) :: M) I w)) _ (by repeat first | exact Sub.nil | refine Sub.cons rfl ?_) (by exact (by first | exact ⟨rfl, hs104⟩ | exact ⟨by rw [hbef _ _ _ (ha (by have := of_decide_eq_true g3; omega)) (by rw [Nat.sub_add_cancel (by have := of_decide_eq_true g3; omega)]; exact ht)]; rfl, hs104⟩)))
    rintro b w202 ⟨rfl, hs202⟩
    refine nxt ?_
    repeat first | apply W.seq | apply W.region
    refine W.cond rfl (fun h2 => ?_) (fun h2 => ?_)
    · cases h2
    refine W.skip (nxt ?_)
    repeat first | apply W.seq | apply W.region
    refine RL.p rfl rfl rfl (PV_move rfl rfl) ?_
    refine RL.p rfl rfl rfl (PV_add rfl rfl rfl (by omega)) ?_
    refine RL.p rfl rfl rfl (PV_assign rfl rfl) ?_
    refine RL.done (round_end (i + 1) ?_ ?_ ?_)
    · repeat first | exact Sub.nil | refine Sub.cons rfl ?_
    · exact ⟨by omega, hs202⟩
    · first | omega | (dsimp only; omega)
  repeat first | apply W.seq | apply W.region
  refine W.exit (nxt ?_)
  repeat first | apply W.seq | apply W.region
  refine RL.p rfl rfl rfl (PV_assign rfl rfl) ?_
  refine RL.done (nxt ?_)
  repeat first | apply W.seq | apply W.region
  refine W.block ?_
  repeat first | apply W.seq | apply W.region
  refine W.loop (F := fun _ : Unit => [(4, .int .i64 0), (1, ptr b1 0)]) (J := fun _ w => Sat G ((b1, [.string s, .int .i64 v, .int .i64 e, .slice A K.length c, .slice none 0 0], 70) :: M) I w) (m := fun _ => 0) () (by repeat first | exact Sub.nil | refine Sub.cons rfl ?_) hs102 ?_
  rintro _ w103 hs103
  repeat first | apply W.seq | apply W.region
  refine RL.p rfl rfl rfl (PV_move rfl rfl) ?_
  refine RL.p rfl rfl rfl (by first | exact PV_fieldAddr0 rfl rfl fa70_4 | exact PV_fieldAddr rfl rfl fa70_4) ?_
  refine RL.s rfl rfl rfl (PV_loadM1 rfl ag68 rfl (by first | exact m0 | exact m1 | exact m2 | exact m3 | exact m4 | exact m5 | exact mapp m0 | exact mapp m1 | exact mapp m2 | exact mapp m3) (by first | exact tc_34 | exact tc_35 | exact tc_36 | exact tc_0 | exact tc_1 | rfl)) hs103 ?_
  refine RL.p rfl rfl rfl (PV_len rfl Tryz.underlying68 rfl) ?_
  refine RL.p rfl rfl rfl (PV_lss rfl rfl rfl) ?_
  refine RL.p rfl rfl rfl (PV_move rfl rfl) ?_
  refine RL.split 51 rfl (fun g4 => by exact absurd (of_decide_eq_true g4) (by decide)) (fun g4 => ?_)
  refine RL.gk rfl rfl rfl rfl g4 rfl rfl rfl ?_
  refine RL.gk rfl rfl rfl rfl g4 rfl rfl rfl ?_
  refine RL.gk rfl rfl rfl rfl g4 rfl rfl rfl ?_
  refine RL.gk rfl rfl rfl rfl g4 rfl rfl rfl ?_
  refine RL.p rfl rfl rfl (PV_pickF rfl rfl g4 rfl) ?_
  refine RL.done (nxt ?_)
  repeat first | apply W.seq | apply W.region
  refine W.cond rfl (fun h3 => ?_) (fun h3 => ?_)
  · cases h3
  repeat first | apply W.seq | apply W.region
  refine W.exit (nxt ?_)
  repeat first | apply W.seq | apply W.region
  refine RL.p rfl rfl rfl (by first | exact PV_fieldAddr0 rfl rfl fa70_0 | exact PV_fieldAddr rfl rfl fa70_0) ?_
  refine RL.s rfl rfl rfl (PV_loadM1 rfl ag9 rfl (by first | exact m0 | exact m1 | exact m2 | exact m3 | exact m4 | exact m5 | exact mapp m0 | exact mapp m1 | exact mapp m2 | exact mapp m3) (by first | exact tc_34 | exact tc_35 | exact tc_36 | exact tc_0 | exact tc_1 | rfl)) hs103 ?_
  refine RL.e rfl rfl rfl (K1 rfl fn173 rfl (C173 hn hs103)) ?_
  rintro r104 w104 ⟨rfl, hs104⟩
  refine RL.p rfl rfl rfl (PV_move rfl rfl) ?_
  refine RL.split 102 rfl (fun g5 => ?_) (fun g5 => by (first | (cases g5; done) | exact absurd (of_decide_eq_false g5) (by omega)))
  refine RL.gp rfl rfl rfl rfl g5 rfl rfl rfl (by first | exact PV_fieldAddr0 rfl rfl fa70_1 | exact PV_fieldAddr rfl rfl fa70_1) ?_
  refine RL.gs rfl rfl rfl rfl g5 rfl rfl rfl (PV_loadM1 rfl ag3 rfl (by first | exact m0 | exact m1 | exact m2 | exact m3 | exact m4 | exact m5 | exact mapp m0 | exact mapp m1 | exact mapp m2 | exact mapp m3) (by first | exact tc_34 | exact tc_35 | exact tc_36 | exact tc_0 | exact tc_1 | rfl)) hs104 ?_
  refine RL.ge rfl rfl rfl rfl g5 rfl rfl rfl (K1 rfl fn167 rfl (C167 hvv hs104)) ?_
  rintro r105 w105 ⟨rfl, hs105⟩
  refine RL.p rfl rfl rfl (PV_pickT rfl rfl g5 rfl) ?_
  refine RL.p rfl rfl rfl (PV_move rfl rfl) ?_
  refine RL.split 107 rfl (fun g6 => ?_) (fun g6 => by (first | (cases g6; done) | exact absurd (of_decide_eq_false g6) (by omega)))
  refine RL.gp rfl rfl rfl rfl g6 rfl rfl rfl (by first | exact PV_fieldAddr0 rfl rfl fa70_2 | exact PV_fieldAddr rfl rfl fa70_2) ?_
  refine RL.gs rfl rfl rfl rfl g6 rfl rfl rfl (PV_loadM1 rfl ag3 rfl (by first | exact m0 | exact m1 | exact m2 | exact m3 | exact m4 | exact m5 | exact mapp m0 | exact mapp m1 | exact mapp m2 | exact mapp m3) (by first | exact tc_34 | exact tc_35 | exact tc_36 | exact tc_0 | exact tc_1 | rfl)) hs105 ?_
  refine RL.ge rfl rfl rfl rfl g6 rfl rfl rfl (EF_bs1c rfl el178 rfl rfl hs105) ?_
  rintro r106 w106 ⟨b110, rfl, hs106⟩
  refine RL.ge rfl rfl rfl rfl g6 rfl rfl rfl (K1 rfl fn168 rfl (C168 he m0 hs106)) ?_
  rintro r107 w107 ⟨rfl, hs107⟩
  refine RL.p rfl rfl rfl (PV_pickT rfl rfl g6 rfl) ?_
  refine RL.p rfl rfl rfl (PV_move rfl rfl) ?_
  refine RL.split 113 rfl (fun g7 => ?_) (fun g7 => by (first | (cases g7; done) | exact absurd (of_decide_eq_false g7) (by omega)))
  refine RL.gp rfl rfl rfl rfl g7 rfl rfl rfl (by first | exact PV_fieldAddr0 rfl rfl fa70_3 | exact PV_fieldAddr rfl rfl fa70_3) ?_
  refine RL.gs rfl rfl rfl rfl g7 rfl rfl rfl (PV_loadM1 rfl ag22 rfl (by first | exact m0 | exact m1 | exact m2 | exact m3 | exact m4 | exact m5 | exact mapp m0 | exact mapp m1 | exact mapp m2 | exact mapp m3) (by first | exact tc_34 | exact tc_35 | exact tc_36 | exact tc_0 | exact tc_1 | rfl)) hs107 ?_
  refine RL.gp rfl rfl rfl rfl g7 rfl rfl rfl (PV_len rfl Tryz.underlying22 rfl) ?_
  refine RL.gp rfl rfl rfl rfl g7 rfl rfl rfl (PV_leq rfl rfl rfl) ?_
  refine RL.p rfl rfl rfl (PV_pickT rfl rfl g7 rfl) ?_
  refine RL.p rfl rfl rfl (PV_move rfl rfl) ?_
  refine RL.split 119 rfl (fun g8 => ?_) (fun g8 => by (first | (cases g8; done) | exact absurd (of_decide_eq_false g8) (by omega)))
  refine RL.gp rfl rfl rfl rfl g8 rfl rfl rfl (by first | exact PV_fieldAddr0 rfl rfl fa70_4 | exact PV_fieldAddr rfl rfl fa70_4) ?_
  refine RL.gs rfl rfl rfl rfl g8 rfl rfl rfl (PV_loadM1 rfl ag68 rfl (by first | exact m0 | exact m1 | exact m2 | exact m3 | exact m4 | exact m5 | exact mapp m0 | exact mapp m1 | exact mapp m2 | exact mapp m3) (by first | exact tc_34 | exact tc_35 | exact tc_36 | exact tc_0 | exact tc_1 | rfl)) hs107 ?_
  refine RL.gp rfl rfl rfl rfl g8 rfl rfl rfl (PV_len rfl Tryz.underlying68 rfl) ?_
  refine RL.gp rfl rfl rfl rfl g8 rfl rfl rfl (PV_leq rfl rfl rfl) ?_
  refine RL.p rfl rfl rfl (PV_pickT rfl rfl g8 rfl) ?_
  refine RL.p rfl rfl rfl (PV_assign rfl rfl) ?_
  refine RL.done (nxt ?_)
  repeat first | apply W.seq | apply W.region
  exact W.ret (ret_tmp rfl rfl ⟨_, rfl, rfl, hs107.tail.tail⟩)

end Go.Proofs.YtecbpmgfikgoaaaGreatDoor
