/-
  DERIVED. GIVEN WITH THE SEED: THE CARDS: each row of YtecbpmgfikgoaaaGreatDoorRows.lean that lists a variable, with what it lists TIED to the program's text (the seventh form; the later family's looks); each row that meets fmt, with fmt's text TOLD by the authors' own Lean function (tested against real Go, not proved from fmt's source: count such statements apart). THE CARD IS WHAT COUNTS. Prove the row's statement (the work); the ties are given (YtecbpmgfikgoaaaGreatDoorTie.lean); close each card by the builder's one call (the guide's Derived/Test/ToyasCard.lean, 'card_holds'). Laid BY PROGRAM, IN A SANDBOX (cutbox-door.mjs). By AI agents, Wed Nov 11 2026. No macro, syntax, notation, axiom, sorry.
-/
import Derived.Test.YtecbpmgfikgoaaaGreatDoorRows
import GoSem.ClaimSeven
namespace Go.Proofs.YtecbpmgfikgoaaaGreatDoor
namespace Rows

/-- THE TIED CARD OF 'ostlerlaw16.RepoList'. -/
def repoListCard : Claim7 := { stood := { row := repoListRow, standIns := [], harness := (true, "ecbf451cbdb54ecad3c34e478349659a1ca71d3cb24234781321ad11c65c365d"), looks := false }, kinds := [], alts := [], laidByText := true, laidKinds := [.data, .pinned], laidTests := true, laidLooks := .later }
def RepoListCardSaid : Prop := Claim7.holds Tryz.pinned (.plain (OpenSpec.ofChange repoListSpec)) repoListCard

/-- THE TIED CARD OF 'ostlerlaw16.RepoTrusted'. -/
def repoTrustedCard : Claim7 := { stood := { row := repoTrustedRow, standIns := [], harness := (true, "ecbf451cbdb54ecad3c34e478349659a1ca71d3cb24234781321ad11c65c365d"), looks := false }, kinds := [], alts := [], laidByText := true, laidKinds := [.data, .pinned], laidTests := true, laidLooks := .later }
def RepoTrustedCardSaid : Prop := Claim7.holds Tryz.pinned (.plain (OpenSpec.ofChange repoTrustedSpec)) repoTrustedCard

/-- THE TIED CARD OF 'ostlerlaw16.RepoLedger'. -/
def repoLedgerCard : Claim7 := { stood := { row := repoLedgerRow, standIns := [], harness := (true, "ecbf451cbdb54ecad3c34e478349659a1ca71d3cb24234781321ad11c65c365d"), looks := false }, kinds := [], alts := [], laidByText := true, laidKinds := [.data, .pinned], laidTests := true, laidLooks := .later }
def RepoLedgerCardSaid : Prop := Claim7.holds Tryz.pinned (.plain (OpenSpec.ofChange repoLedgerSpec)) repoLedgerCard

/-- THE TIED CARD OF 'ostlerlaw16.RepoOfNothing'. -/
def repoOfNothingCard : Claim7 := { stood := { row := repoOfNothingRow, standIns := [], harness := (true, "ecbf451cbdb54ecad3c34e478349659a1ca71d3cb24234781321ad11c65c365d"), looks := false }, kinds := [], alts := [], laidByText := true, laidKinds := [.data, .pinned], laidTests := true, laidLooks := .later }
def RepoOfNothingCardSaid : Prop := Claim7.holds Tryz.pinned (.plain (OpenSpec.ofChange repoOfNothingSpec)) repoOfNothingCard

/-- THE SECOND FORM's CARD OF 'ostlerlaw16.RepoList'. -/
def repoListUptoCard : Claim7 := { stood := { row := repoListUptoRow, standIns := [], harness := (true, "ecbf451cbdb54ecad3c34e478349659a1ca71d3cb24234781321ad11c65c365d"), looks := false }, kinds := [], alts := [], laidByText := true, laidKinds := [.data, .pinned], laidTests := true, laidLooks := .later }
def RepoListUptoCardSaid : Prop := Claim7.holds Tryz.pinned (.plain (OpenSpec.upto repoListSpec)) repoListUptoCard

/-- THE SECOND FORM's CARD OF 'ostlerlaw16.RepoTrusted'. -/
def repoTrustedUptoCard : Claim7 := { stood := { row := repoTrustedUptoRow, standIns := [], harness := (true, "ecbf451cbdb54ecad3c34e478349659a1ca71d3cb24234781321ad11c65c365d"), looks := false }, kinds := [], alts := [], laidByText := true, laidKinds := [.data, .pinned], laidTests := true, laidLooks := .later }
def RepoTrustedUptoCardSaid : Prop := Claim7.holds Tryz.pinned (.plain (OpenSpec.upto repoTrustedSpec)) repoTrustedUptoCard

/-- THE SECOND FORM's CARD OF 'ostlerlaw16.RepoLedger'. -/
def repoLedgerUptoCard : Claim7 := { stood := { row := repoLedgerUptoRow, standIns := [], harness := (true, "ecbf451cbdb54ecad3c34e478349659a1ca71d3cb24234781321ad11c65c365d"), looks := false }, kinds := [], alts := [], laidByText := true, laidKinds := [.data, .pinned], laidTests := true, laidLooks := .later }
def RepoLedgerUptoCardSaid : Prop := Claim7.holds Tryz.pinned (.plain (OpenSpec.upto repoLedgerSpec)) repoLedgerUptoCard

/-- THE SECOND FORM's CARD OF 'ostlerlaw16.RepoOfNothing'. -/
def repoOfNothingUptoCard : Claim7 := { stood := { row := repoOfNothingUptoRow, standIns := [], harness := (true, "ecbf451cbdb54ecad3c34e478349659a1ca71d3cb24234781321ad11c65c365d"), looks := false }, kinds := [], alts := [], laidByText := true, laidKinds := [.data, .pinned], laidTests := true, laidLooks := .later }
def RepoOfNothingUptoCardSaid : Prop := Claim7.holds Tryz.pinned (.plain (OpenSpec.upto repoOfNothingSpec)) repoOfNothingUptoCard
end Rows
end Go.Proofs.YtecbpmgfikgoaaaGreatDoor
