/-
  DERIVED. GIVEN WITH THE SEED: THE CARDS: each row of YtajaenkdllfidaaGreatDoorRows.lean that lists a variable, with what it lists TIED to the program's text (the seventh form; the later family's looks); each row that meets fmt, with fmt's text TOLD by the authors' own Lean function (tested against real Go, not proved from fmt's source: count such statements apart). THE CARD IS WHAT COUNTS. Prove the row's statement (the work); the ties are given (YtajaenkdllfidaaGreatDoorTie.lean); close each card by the builder's one call (the guide's Derived/Test/ToyasCard.lean, 'card_holds'). Laid BY PROGRAM, IN A SANDBOX (cutbox-door.mjs). By AI agents, Wed Nov 11 2026. No macro, syntax, notation, axiom, sorry.
-/
import Derived.Test.YtajaenkdllfidaaGreatDoorRows
import GoSem.ClaimSeven
namespace Go.Proofs.YtajaenkdllfidaaGreatDoor
namespace Rows

/-- THE TIED CARD OF 'orchestratorlaw18.KindsTypes'. -/
def kindsTypesCard : Claim7 := { stood := { row := kindsTypesRow, standIns := [], harness := (true, "0e47817d4bbdcc603f72ab4b499fc18e85f4cd008eef9e843eff56a8735d7c13"), looks := true }, kinds := [], alts := [], laidByText := true, laidKinds := [.data, .data, .data], laidTests := true, laidLooks := .later }
def KindsTypesCardSaid : Prop := Claim7.holds Tryz.pinned (.plain (OpenSpec.ofChange kindsTypesSpec)) kindsTypesCard

/-- THE TIED CARD OF 'orchestratorlaw18.KindsAccept'. -/
def kindsAcceptCard : Claim7 := { stood := { row := kindsAcceptRow, standIns := [], harness := (true, "0e47817d4bbdcc603f72ab4b499fc18e85f4cd008eef9e843eff56a8735d7c13"), looks := true }, kinds := [], alts := [], laidByText := true, laidKinds := [.data, .data, .data], laidTests := true, laidLooks := .later }
def KindsAcceptCardSaid : Prop := Claim7.holds Tryz.pinned (.plain (OpenSpec.ofChange kindsAcceptSpec)) kindsAcceptCard

/-- THE TIED CARD OF 'orchestratorlaw18.KindsChecks'. -/
def kindsChecksCard : Claim7 := { stood := { row := kindsChecksRow, standIns := [], harness := (true, "0e47817d4bbdcc603f72ab4b499fc18e85f4cd008eef9e843eff56a8735d7c13"), looks := true }, kinds := [], alts := [], laidByText := true, laidKinds := [.data, .data, .data], laidTests := true, laidLooks := .later }
def KindsChecksCardSaid : Prop := Claim7.holds Tryz.pinned (.plain (OpenSpec.ofChange kindsChecksSpec)) kindsChecksCard

/-- THE TIED CARD OF 'orchestratorlaw18.KindsRefuse'. -/
def kindsRefuseCard : Claim7 := { stood := { row := kindsRefuseRow, standIns := [], harness := (true, "0e47817d4bbdcc603f72ab4b499fc18e85f4cd008eef9e843eff56a8735d7c13"), looks := true }, kinds := [], alts := [], laidByText := true, laidKinds := [.data, .data, .data], laidTests := true, laidLooks := .later }
def KindsRefuseCardSaid : Prop := Claim7.holds Tryz.pinned (.plain (OpenSpec.ofChange kindsRefuseSpec)) kindsRefuseCard

/-- THE TIED CARD OF 'orchestratorlaw18.KindsValid'. -/
def kindsValidCard : Claim7 := { stood := { row := kindsValidRow, standIns := [], harness := (true, "0e47817d4bbdcc603f72ab4b499fc18e85f4cd008eef9e843eff56a8735d7c13"), looks := true }, kinds := [], alts := [], laidByText := true, laidKinds := [.data, .data, .data, .sentinel, .sentinel], laidTests := true, laidLooks := .later }
def KindsValidCardSaid : Prop := Claim7.holds Tryz.pinned (.plain (OpenSpec.ofChange kindsValidSpec)) kindsValidCard

/-- THE SECOND FORM's CARD OF 'orchestratorlaw18.KindsTypes'. -/
def kindsTypesUptoCard : Claim7 := { stood := { row := kindsTypesUptoRow, standIns := [], harness := (true, "0e47817d4bbdcc603f72ab4b499fc18e85f4cd008eef9e843eff56a8735d7c13"), looks := true }, kinds := [], alts := [], laidByText := true, laidKinds := [.data, .data, .data], laidTests := true, laidLooks := .later }
def KindsTypesUptoCardSaid : Prop := Claim7.holds Tryz.pinned (.plain (OpenSpec.upto kindsTypesSpec)) kindsTypesUptoCard

/-- THE SECOND FORM's CARD OF 'orchestratorlaw18.KindsAccept'. -/
def kindsAcceptUptoCard : Claim7 := { stood := { row := kindsAcceptUptoRow, standIns := [], harness := (true, "0e47817d4bbdcc603f72ab4b499fc18e85f4cd008eef9e843eff56a8735d7c13"), looks := true }, kinds := [], alts := [], laidByText := true, laidKinds := [.data, .data, .data], laidTests := true, laidLooks := .later }
def KindsAcceptUptoCardSaid : Prop := Claim7.holds Tryz.pinned (.plain (OpenSpec.upto kindsAcceptSpec)) kindsAcceptUptoCard

/-- THE SECOND FORM's CARD OF 'orchestratorlaw18.KindsChecks'. -/
def kindsChecksUptoCard : Claim7 := { stood := { row := kindsChecksUptoRow, standIns := [], harness := (true, "0e47817d4bbdcc603f72ab4b499fc18e85f4cd008eef9e843eff56a8735d7c13"), looks := true }, kinds := [], alts := [], laidByText := true, laidKinds := [.data, .data, .data], laidTests := true, laidLooks := .later }
def KindsChecksUptoCardSaid : Prop := Claim7.holds Tryz.pinned (.plain (OpenSpec.upto kindsChecksSpec)) kindsChecksUptoCard

/-- THE SECOND FORM's CARD OF 'orchestratorlaw18.KindsRefuse'. -/
def kindsRefuseUptoCard : Claim7 := { stood := { row := kindsRefuseUptoRow, standIns := [], harness := (true, "0e47817d4bbdcc603f72ab4b499fc18e85f4cd008eef9e843eff56a8735d7c13"), looks := true }, kinds := [], alts := [], laidByText := true, laidKinds := [.data, .data, .data], laidTests := true, laidLooks := .later }
def KindsRefuseUptoCardSaid : Prop := Claim7.holds Tryz.pinned (.plain (OpenSpec.upto kindsRefuseSpec)) kindsRefuseUptoCard

/-- THE SECOND FORM's CARD OF 'orchestratorlaw18.KindsValid'. -/
def kindsValidUptoCard : Claim7 := { stood := { row := kindsValidUptoRow, standIns := [], harness := (true, "0e47817d4bbdcc603f72ab4b499fc18e85f4cd008eef9e843eff56a8735d7c13"), looks := true }, kinds := [], alts := [], laidByText := true, laidKinds := [.data, .data, .data, .sentinel, .sentinel], laidTests := true, laidLooks := .later }
def KindsValidUptoCardSaid : Prop := Claim7.holds Tryz.pinned (.plain (OpenSpec.upto kindsValidSpec)) kindsValidUptoCard
end Rows
end Go.Proofs.YtajaenkdllfidaaGreatDoor
