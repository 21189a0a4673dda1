/- The ledger grows by what is signed, and by nothing else; nothing leaves it: the law RepoLedger answers true for every script, and changes nothing of it. Conditions: those of the given row, and no more. -/
import Derived.Test.YtecbpmgfikgoaaaGreatDoorU27
import Derived.Test.YtecbpmgfikgoaaaGreatDoorA0
import Derived.Test.YtecbpmgfikgoaaaGreatDoorCards
import Derived.Test.YtecbpmgfikgoaaaGreatDoorTie
import Derived.Lay
import Derived.Stop.Joined
set_option linter.unusedVariables false
set_option maxRecDepth 100000
namespace Go.Proofs.YtecbpmgfikgoaaaGreatDoor
open Go Go.ChangeShapes Go.WideShapes Go.ChangeAt Go.RowKit

theorem own5 : ownKnob Tryz.prog.godebug = none := by kernel_rfl
theorem laidOut5 : laidOutB Tryz.prog = true := by kernel_rfl

theorem lifted5 (os : Os) (started : os.Started) (H : Type) (enc : TypeId × Value → H) :
    ReturnsInHanded {} Tryz.checked os 5 .any (fun w args => (Rows.repoLedgerSpec.pre enc Tryz.prog Tryz.f5 [] false w args ∧ laidMetH Tryz.prog Rows.repoLedgerRow.laid w) ∧ sizedMet enc Tryz.prog Tryz.f5 (OpenSpec.ofChange Rows.repoLedgerSpec) false w args)
      (Rows.repoLedgerSpec.post enc Tryz.prog Tryz.f5 false true false false) := by
  refine returnsInHanded_of_change_and (C := Tryz.checked) (X := fun w _ => laidMetH Tryz.prog Rows.repoLedgerRow.laid w) (fun _ _ _ hh h => h.of_heap hh) own5 started (by kernel_rfl) Tryz.func5
    (ChangeSpec.witness_shaped (enc := enc) (C := Tryz.checked) (os := os) (X := fun w _ => laidMetH Tryz.prog Rows.repoLedgerRow.laid w) false (World.laidAll Tryz.prog os Rows.repoLedgerRow.laid) #[.slice none 0 0] 8 (World.laidAll_os _ _ _)
      (World.shaped_of_ZipB (by kernel_rfl) (by kernel_rfl)) (by kernel_rfl) (by kernel_rfl) (by kernel_rfl)
      (by rw [MakeChecks.laidMetH_plain _ _ _ (by kernel_rfl)]; exact laidMet_laidAll _ (by kernel_rfl) (by kernel_rfl))) ?_
  intro W base args ds gs before hval0 hW hc hsz hL _
  have hval : ∀ (j : Nat) t v, Tryz.f5.params[j]? = some t → args[j]? = some v → Value.okWide Tryz.prog W .any base t v := hval0
  have hW' := hW
  obtain ⟨p, q, hA0, hV, rfl, _, _⟩ := hW
  have hA : DataW.TrodAll enc Tryz.prog W 0 (fun _ => true) true Tryz.f5.params.toList args.toList ds p := hA0
  rw [Tryz.params5] at hA hval
  obtain ⟨v0, d0, rfl, rfl, h0⟩ := trodAll_one hA
  obtain ⟨rfl, rfl⟩ := trodVars_none hV
  obtain ⟨A, len, cap, rfl⟩ := okWide_slice Tryz.underlying35 (hval 0 35 v0 rfl rfl)
  have hszt : ∀ m ∈ d0.weights Tryz.prog 35, m ≤ reachBytes := fun m hm => by
    have := List.all_eq_true.1 hsz m (DataW.weights_mem_each (j := 0) rfl rfl m hm)
    simpa using this
  have h0k := h0
  have lt0 : ∀ x ∈ p, x.block < W.heap.size := by obtain ⟨m, hm⟩ := h0k; exact DataW.trod_lt m _ _ _ hm
  obtain ⟨fuel, hf⟩ := h0
  obtain ⟨K, hK, hQ, hlen⟩ := open_flat (f := acells) (Q := fun a : ActT => a.t.name.size ≤ reachBytes ∧ a.t.hw.size ≤ reachBytes ∧ a.t.ecu.size ≤ reachBytes) Tryz.underlying35 c53 (by decide) length_acells (by rw [show Tryz.prog.bytesOf 53 = 120 by kernel_rfl]; decide) (fun n cs y h => open_act h) hf hszt
  have hr : reachBytes ≤ 2 ^ 50 := by decide
  have hcall := C5 (L := K) (by omega) hQ hK.toM (Sat.start W)
  refine hcall.mono fun e W' he => ?_
  obtain ⟨r, rfl, rfl, hs⟩ := he
  have bel := hs.below
  exact ⟨_, rfl, _, _, _, [], _, [], hW', trodAll_mk1 (shut_bool Tryz.underlying4 _), trodAll_mk1 (Below.trod laidOut5 (by kernel_rfl) (of_decide_eq_true (by kernel_rfl)) h0k bel lt0), rfl, bel.frame _, fun h => by cases h⟩

theorem repoLedger_holds : Rows.RepoLedgerSaid :=
  OpenClaim.holds_of_wide 5 Tryz.f5 rfl rfl rfl rfl rfl rfl rfl ⟨rfl, rfl, rfl, rfl, rfl⟩ rfl rfl rfl rfl rfl (by kernel_rfl) Tryz.func5 (by kernel_rfl)
    (of_decide_eq_true (by kernel_rfl)) (by unfold Func.isWrapper; first | (rw [if_pos (by decide +kernel)]; kernel_rfl) | (rw [if_neg (by decide +kernel)]; exact ⟨rfl, rfl⟩))
    (fun os started H enc _ => lifted5 os started H enc)
theorem repoLedger_card_holds : Rows.RepoLedgerCardSaid :=
  Claim7.holds_tied_plain_at .later [] [.data, .pinned] true (true, "ecbf451cbdb54ecad3c34e478349659a1ca71d3cb24234781321ad11c65c365d") false repoLedger_holds (fun _ h => by cases h) (by kernel_rfl) (fun _ h => by cases h) repoLedger_row_tie rfl ⟨rfl, rfl⟩ (by kernel_rfl) rfl
    (fun f fn hf hfn => by
      obtain rfl : f = 5 := Option.some.inj ((show Tryz.prog.funcNamed "ostler/ostlerlaw16.RepoLedger" = some 5 by kernel_rfl).symm.trans hf) |>.symm
      obtain rfl : fn = Tryz.f5 := (Option.some.inj (Tryz.func5.symm.trans hfn)).symm
      exact ⟨by kernel_rfl, fun j t ht => by
        rw [Tryz.params5] at ht
        have hm : t ∈ [35] := by simpa using Array.mem_of_getElem? ht
        have hall : ([35].all fun u => !Tryz.prog.wantsStandIn u) = true := by kernel_rfl
        exact (show Tryz.prog.wantsStandIn t = false by simpa using List.all_eq_true.1 hall t hm)⟩)
    (by kernel_rfl)
#print axioms repoLedger_card_holds
end Go.Proofs.YtecbpmgfikgoaaaGreatDoor
