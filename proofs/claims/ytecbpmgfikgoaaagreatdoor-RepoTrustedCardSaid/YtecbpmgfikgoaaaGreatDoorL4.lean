/- Whoever holds a Repo's first root trusts what the Repo signs, and finds its list in it: the law RepoTrusted answers true for every seed, script and life, and changes nothing of them. Conditions: those of the given row, and no more. -/
import Derived.Test.YtecbpmgfikgoaaaGreatDoorY2
import Derived.Test.YtecbpmgfikgoaaaGreatDoorCards
import Derived.Test.YtecbpmgfikgoaaaGreatDoorTie
import Derived.Lay
import Derived.Stop.Joined
set_option linter.unusedVariables false
set_option maxRecDepth 100000
namespace Go.Proofs.YtecbpmgfikgoaaaGreatDoor
open Go Go.ChangeShapes Go.WideShapes Go.ChangeAt Go.RowKit

theorem own4 : ownKnob Tryz.prog.godebug = none := by kernel_rfl
theorem laidOut4 : laidOutB Tryz.prog = true := by kernel_rfl
theorem okWide_arr {P : Program} {w : World} {r : Reach} {base : Nat} {t e : TypeId} {v : Value} {n : Nat} (ht : P.underlying t = some (.array n e)) (h : Value.okWide P w r base t v) : ∃ cs, v = .agg cs ∧ cs.size = P.cellsOf t := by
  simp only [Value.okWide, ht] at h
  obtain ⟨cs, h1, h2, _⟩ := h
  exact ⟨cs, h1, h2⟩

theorem lifted4 (os : Os) (started : os.Started) (H : Type) (enc : TypeId × Value → H) :
    ReturnsInHanded {} Tryz.checked os 4 .any (fun w args => (Rows.repoTrustedSpec.pre enc Tryz.prog Tryz.f4 [] false w args ∧ laidMetH Tryz.prog Rows.repoTrustedRow.laid w) ∧ sizedMet enc Tryz.prog Tryz.f4 (OpenSpec.ofChange Rows.repoTrustedSpec) false w args)
      (Rows.repoTrustedSpec.post enc Tryz.prog Tryz.f4 false true false false) := by
  refine returnsInHanded_of_change_and (C := Tryz.checked) (X := fun w _ => laidMetH Tryz.prog Rows.repoTrustedRow.laid w) (fun _ _ _ hh h => h.of_heap hh) own4 started (by kernel_rfl) Tryz.func4
    (ChangeSpec.witness_shaped (enc := enc) (C := Tryz.checked) (os := os) (X := fun w _ => laidMetH Tryz.prog Rows.repoTrustedRow.laid w) false (World.laidAll Tryz.prog os Rows.repoTrustedRow.laid) #[aggL zl24, .slice none 0 0, .int .i64 0] 8 (World.laidAll_os _ _ _)
      (World.shaped_of_ZipB (by kernel_rfl) (by kernel_rfl)) (by kernel_rfl) (by kernel_rfl) (by kernel_rfl)
      (by rw [MakeChecks.laidMetH_plain _ _ _ (by kernel_rfl)]; exact laidMet_laidAll _ (by kernel_rfl) (by kernel_rfl))) ?_
  intro W base args ds gs before hval0 hW hc hsz hL _
  have hval : ∀ (j : Nat) t v, Tryz.f4.params[j]? = some t → args[j]? = some v → Value.okWide Tryz.prog W .any base t v := hval0
  have hW' := hW
  obtain ⟨p, q, hA0, hV, rfl, _, _⟩ := hW
  have hA : DataW.TrodAll enc Tryz.prog W 0 (fun _ => true) true Tryz.f4.params.toList args.toList ds p := hA0
  rw [Tryz.params4] at hA hval
  obtain ⟨v0, v1, v2, d0, d1, d2, p0, p1, p2, rfl, rfl, rfl, h0, h1, h2⟩ := trodAll_three hA
  obtain ⟨rfl, rfl⟩ := trodVars_none hV
  obtain ⟨cs, rfl, hcs⟩ := okWide_arr Tryz.underlying24 (hval 0 24 v0 rfl rfl)
  obtain ⟨A, len, cap, rfl⟩ := okWide_slice Tryz.underlying35 (hval 1 35 v1 rfl rfl)
  obtain ⟨life, rfl⟩ := okWide_int Tryz.underlying3 (hval 2 3 v2 rfl rfl)
  have hszt : ∀ m ∈ d1.weights Tryz.prog 35, m ≤ reachBytes := fun m hm => by
    have := List.all_eq_true.1 hsz m (DataW.weights_mem_each (j := 1) rfl rfl m hm)
    simpa using this
  have h0k := h0
  have h1k := h1
  have h2k := h2
  have lt0 : ∀ x ∈ p0, x.block < W.heap.size := by obtain ⟨m, hm⟩ := h0k; exact DataW.trod_lt m _ _ _ hm
  have lt1 : ∀ x ∈ p1, x.block < W.heap.size := by obtain ⟨m, hm⟩ := h1k; exact DataW.trod_lt m _ _ _ hm
  have lt2 : ∀ x ∈ p2, x.block < W.heap.size := by obtain ⟨m, hm⟩ := h2k; exact DataW.trod_lt m _ _ _ hm
  obtain ⟨fuel0, hf0⟩ := h0
  obtain ⟨fuel1, hf1⟩ := h1
  obtain ⟨seed, hs32, hsd⟩ := open_bytes32 hf0
  have hcl : Value.agg cs = aggL (bcells seed) := by rw [aggL, ← hsd]; rfl
  obtain ⟨K, hK, hQ, hlen⟩ := open_flat (f := acells) (Q := fun a : ActT => a.t.name.size ≤ reachBytes ∧ a.t.hw.size ≤ reachBytes ∧ a.t.ecu.size ≤ reachBytes) Tryz.underlying35 c53 (by decide) length_acells (by rw [show Tryz.prog.bytesOf 53 = 120 by kernel_rfl]; decide) (fun n cs y h => open_act h) hf1 hszt
  have hr : reachBytes ≤ 2 ^ 50 := by decide
  obtain ⟨Ax, cx, hax, _⟩ := hK.shape
  have hcall := C4 (L := K) (life := life) hs32 (by omega) hQ hK.toM (Sat.start W)
  rw [← hcl] at hcall
  refine hcall.mono fun e W' he => ?_
  obtain ⟨r, rfl, rfl, hs⟩ := he
  have bel := hs.below
  exact ⟨_, rfl, _, _, _, [], _, [], hW', trodAll_mk1 (shut_bool Tryz.underlying4 _), trodAll_mk3 (Below.trod laidOut4 (by kernel_rfl) (of_decide_eq_true (by kernel_rfl)) h0k bel lt0) (Below.trod laidOut4 (by kernel_rfl) (of_decide_eq_true (by kernel_rfl)) h1k bel lt1) (Below.trod laidOut4 (by kernel_rfl) (of_decide_eq_true (by kernel_rfl)) h2k bel lt2), rfl, bel.frame _, fun h => by cases h⟩

theorem repoTrusted_holds : Rows.RepoTrustedSaid :=
  OpenClaim.holds_of_wide 4 Tryz.f4 rfl rfl rfl rfl rfl rfl rfl ⟨rfl, rfl, rfl, rfl, rfl⟩ rfl rfl rfl rfl rfl (by kernel_rfl) Tryz.func4 (by kernel_rfl)
    (of_decide_eq_true (by kernel_rfl)) (by unfold Func.isWrapper; first | (rw [if_pos (by decide +kernel)]; kernel_rfl) | (rw [if_neg (by decide +kernel)]; exact ⟨rfl, rfl⟩))
    (fun os started H enc _ => lifted4 os started H enc)
theorem repoTrusted_card_holds : Rows.RepoTrustedCardSaid :=
  Claim7.holds_tied_plain_at .later [] [.data, .pinned] true (true, "ecbf451cbdb54ecad3c34e478349659a1ca71d3cb24234781321ad11c65c365d") false repoTrusted_holds (fun _ h => by cases h) (by kernel_rfl) (fun _ h => by cases h) repoTrusted_row_tie rfl ⟨rfl, rfl⟩ (by kernel_rfl) rfl
    (fun f fn hf hfn => by
      obtain rfl : f = 4 := Option.some.inj ((show Tryz.prog.funcNamed "ostler/ostlerlaw16.RepoTrusted" = some 4 by kernel_rfl).symm.trans hf) |>.symm
      obtain rfl : fn = Tryz.f4 := (Option.some.inj (Tryz.func4.symm.trans hfn)).symm
      exact ⟨by kernel_rfl, fun j t ht => by
        rw [Tryz.params4] at ht
        have hm : t ∈ [24, 35, 3] := by simpa using Array.mem_of_getElem? ht
        have hall : ([24, 35, 3].all fun u => !Tryz.prog.wantsStandIn u) = true := by kernel_rfl
        exact (show Tryz.prog.wantsStandIn t = false by simpa using List.all_eq_true.1 hall t hm)⟩)
    (by kernel_rfl)
#print axioms repoTrusted_card_holds
end Go.Proofs.YtecbpmgfikgoaaaGreatDoor
