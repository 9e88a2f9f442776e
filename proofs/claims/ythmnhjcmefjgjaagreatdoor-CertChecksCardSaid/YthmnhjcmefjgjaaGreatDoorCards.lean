/-
  DERIVED. GIVEN WITH THE SEED: THE CARDS: each row of YthmnhjcmefjgjaaGreatDoorRows.lean that lists a variable, with what it lists TIED to the program's text (the seventh form; the later family's looks); each row that meets fmt, with fmt's text TOLD by the authors' own Lean function (tested against real Go, not proved from fmt's source: count such statements apart). THE CARD IS WHAT COUNTS. Prove the row's statement (the work); the ties are given (YthmnhjcmefjgjaaGreatDoorTie.lean); close each card by the builder's one call (the guide's Derived/Test/ToyasCard.lean, 'card_holds'). Laid BY PROGRAM, IN A SANDBOX (cutbox-door.mjs). By AI agents, Wed Nov 11 2026. No macro, syntax, notation, axiom, sorry.
-/
import Derived.Test.YthmnhjcmefjgjaaGreatDoorRows
import GoSem.ClaimSeven
namespace Go.Proofs.YthmnhjcmefjgjaaGreatDoor
namespace Rows

/-- THE TIED CARD OF 'madrigallaw36.CertFiner'. -/
def certFinerCard : Claim7 := { stood := { row := certFinerRow, standIns := [], harness := (true, "578b08d891cace0eb6c0f6693ab8676fece35ad98d139ec7d8be82a3732ad6d6"), looks := false }, kinds := [], alts := [], laidByText := true, laidKinds := [.data, .data, .data, .data, .pinned], laidTests := true, laidLooks := .later }
def CertFinerCardSaid : Prop := Claim7.holds Tryz.pinned (.plain (OpenSpec.ofChange certFinerSpec)) certFinerCard

/-- THE TIED CARD OF 'madrigallaw36.CertTexts'. -/
def certTextsCard : Claim7 := { stood := { row := certTextsRow, standIns := [], harness := (true, "578b08d891cace0eb6c0f6693ab8676fece35ad98d139ec7d8be82a3732ad6d6"), looks := false }, kinds := [], alts := [], laidByText := true, laidKinds := [.data, .data, .data, .data, .pinned], laidTests := true, laidLooks := .later }
def CertTextsCardSaid : Prop := Claim7.holds Tryz.pinned (.plain (OpenSpec.ofChange certTextsSpec)) certTextsCard

/-- THE TIED CARD OF 'madrigallaw36.CertRuns'. -/
def certRunsCard : Claim7 := { stood := { row := certRunsRow, standIns := [], harness := (true, "578b08d891cace0eb6c0f6693ab8676fece35ad98d139ec7d8be82a3732ad6d6"), looks := false }, kinds := [], alts := [], laidByText := true, laidKinds := [.data, .data, .data, .data, .pinned], laidTests := true, laidLooks := .later }
def CertRunsCardSaid : Prop := Claim7.holds Tryz.pinned (.plain (OpenSpec.ofChange certRunsSpec)) certRunsCard

/-- THE TIED CARD OF 'madrigallaw36.CertClasses'. -/
def certClassesCard : Claim7 := { stood := { row := certClassesRow, standIns := [], harness := (true, "578b08d891cace0eb6c0f6693ab8676fece35ad98d139ec7d8be82a3732ad6d6"), looks := false }, kinds := [], alts := [], laidByText := true, laidKinds := [.data, .data, .data, .data, .pinned], laidTests := true, laidLooks := .later }
def CertClassesCardSaid : Prop := Claim7.holds Tryz.pinned (.plain (OpenSpec.ofChange certClassesSpec)) certClassesCard

/-- THE TIED CARD OF 'madrigallaw36.CertCaught'. -/
def certCaughtCard : Claim7 := { stood := { row := certCaughtRow, standIns := [], harness := (true, "578b08d891cace0eb6c0f6693ab8676fece35ad98d139ec7d8be82a3732ad6d6"), looks := false }, kinds := [], alts := [], laidByText := true, laidKinds := [.data, .data, .data, .data, .pinned], laidTests := true, laidLooks := .later }
def CertCaughtCardSaid : Prop := Claim7.holds Tryz.pinned (.plain (OpenSpec.ofChange certCaughtSpec)) certCaughtCard

/-- THE TIED CARD OF 'madrigallaw36.CertNothing'. -/
def certNothingCard : Claim7 := { stood := { row := certNothingRow, standIns := [], harness := (true, "578b08d891cace0eb6c0f6693ab8676fece35ad98d139ec7d8be82a3732ad6d6"), looks := false }, kinds := [], alts := [], laidByText := true, laidKinds := [.data, .data, .data, .data, .pinned], laidTests := true, laidLooks := .later }
def CertNothingCardSaid : Prop := Claim7.holds Tryz.pinned (.plain (OpenSpec.ofChange certNothingSpec)) certNothingCard

/-- THE TIED CARD OF 'madrigallaw36.CertChecks'. -/
def certChecksCard : Claim7 := { stood := { row := certChecksRow, standIns := [], harness := (true, "578b08d891cace0eb6c0f6693ab8676fece35ad98d139ec7d8be82a3732ad6d6"), looks := false }, kinds := [], alts := [], laidByText := true, laidKinds := [.data, .data, .data, .data, .pinned], laidTests := true, laidLooks := .later }
def CertChecksCardSaid : Prop := Claim7.holds Tryz.pinned (.plain (OpenSpec.ofChange certChecksSpec)) certChecksCard

/-- THE TIED CARD OF 'madrigallaw36.CertEquivalence'. -/
def certEquivalenceCard : Claim7 := { stood := { row := certEquivalenceRow, standIns := [], harness := (true, "578b08d891cace0eb6c0f6693ab8676fece35ad98d139ec7d8be82a3732ad6d6"), looks := false }, kinds := [], alts := [], laidByText := true, laidKinds := [.data, .data, .data, .data, .pinned], laidTests := true, laidLooks := .later }
def CertEquivalenceCardSaid : Prop := Claim7.holds Tryz.pinned (.plain (OpenSpec.ofChange certEquivalenceSpec)) certEquivalenceCard

/-- THE TIED CARD OF 'madrigallaw36.CertTraces'. -/
def certTracesCard : Claim7 := { stood := { row := certTracesRow, standIns := [], harness := (true, "578b08d891cace0eb6c0f6693ab8676fece35ad98d139ec7d8be82a3732ad6d6"), looks := false }, kinds := [], alts := [], laidByText := true, laidKinds := [.data, .data, .data, .data, .pinned], laidTests := true, laidLooks := .later }
def CertTracesCardSaid : Prop := Claim7.holds Tryz.pinned (.plain (OpenSpec.ofChange certTracesSpec)) certTracesCard

/-- THE TIED CARD OF 'madrigallaw36.CertBonds'. -/
def certBondsCard : Claim7 := { stood := { row := certBondsRow, standIns := [], harness := (true, "578b08d891cace0eb6c0f6693ab8676fece35ad98d139ec7d8be82a3732ad6d6"), looks := false }, kinds := [], alts := [], laidByText := true, laidKinds := [.data, .data, .data, .data, .pinned], laidTests := true, laidLooks := .later }
def CertBondsCardSaid : Prop := Claim7.holds Tryz.pinned (.plain (OpenSpec.ofChange certBondsSpec)) certBondsCard

/-- THE SECOND FORM's CARD OF 'madrigallaw36.CertFiner'. -/
def certFinerUptoCard : Claim7 := { stood := { row := certFinerUptoRow, standIns := [], harness := (true, "578b08d891cace0eb6c0f6693ab8676fece35ad98d139ec7d8be82a3732ad6d6"), looks := false }, kinds := [], alts := [], laidByText := true, laidKinds := [.data, .data, .data, .data, .pinned], laidTests := true, laidLooks := .later }
def CertFinerUptoCardSaid : Prop := Claim7.holds Tryz.pinned (.plain (OpenSpec.upto certFinerSpec)) certFinerUptoCard

/-- THE SECOND FORM's CARD OF 'madrigallaw36.CertTexts'. -/
def certTextsUptoCard : Claim7 := { stood := { row := certTextsUptoRow, standIns := [], harness := (true, "578b08d891cace0eb6c0f6693ab8676fece35ad98d139ec7d8be82a3732ad6d6"), looks := false }, kinds := [], alts := [], laidByText := true, laidKinds := [.data, .data, .data, .data, .pinned], laidTests := true, laidLooks := .later }
def CertTextsUptoCardSaid : Prop := Claim7.holds Tryz.pinned (.plain (OpenSpec.upto certTextsSpec)) certTextsUptoCard

/-- THE SECOND FORM's CARD OF 'madrigallaw36.CertRuns'. -/
def certRunsUptoCard : Claim7 := { stood := { row := certRunsUptoRow, standIns := [], harness := (true, "578b08d891cace0eb6c0f6693ab8676fece35ad98d139ec7d8be82a3732ad6d6"), looks := false }, kinds := [], alts := [], laidByText := true, laidKinds := [.data, .data, .data, .data, .pinned], laidTests := true, laidLooks := .later }
def CertRunsUptoCardSaid : Prop := Claim7.holds Tryz.pinned (.plain (OpenSpec.upto certRunsSpec)) certRunsUptoCard

/-- THE SECOND FORM's CARD OF 'madrigallaw36.CertClasses'. -/
def certClassesUptoCard : Claim7 := { stood := { row := certClassesUptoRow, standIns := [], harness := (true, "578b08d891cace0eb6c0f6693ab8676fece35ad98d139ec7d8be82a3732ad6d6"), looks := false }, kinds := [], alts := [], laidByText := true, laidKinds := [.data, .data, .data, .data, .pinned], laidTests := true, laidLooks := .later }
def CertClassesUptoCardSaid : Prop := Claim7.holds Tryz.pinned (.plain (OpenSpec.upto certClassesSpec)) certClassesUptoCard

/-- THE SECOND FORM's CARD OF 'madrigallaw36.CertCaught'. -/
def certCaughtUptoCard : Claim7 := { stood := { row := certCaughtUptoRow, standIns := [], harness := (true, "578b08d891cace0eb6c0f6693ab8676fece35ad98d139ec7d8be82a3732ad6d6"), looks := false }, kinds := [], alts := [], laidByText := true, laidKinds := [.data, .data, .data, .data, .pinned], laidTests := true, laidLooks := .later }
def CertCaughtUptoCardSaid : Prop := Claim7.holds Tryz.pinned (.plain (OpenSpec.upto certCaughtSpec)) certCaughtUptoCard

/-- THE SECOND FORM's CARD OF 'madrigallaw36.CertNothing'. -/
def certNothingUptoCard : Claim7 := { stood := { row := certNothingUptoRow, standIns := [], harness := (true, "578b08d891cace0eb6c0f6693ab8676fece35ad98d139ec7d8be82a3732ad6d6"), looks := false }, kinds := [], alts := [], laidByText := true, laidKinds := [.data, .data, .data, .data, .pinned], laidTests := true, laidLooks := .later }
def CertNothingUptoCardSaid : Prop := Claim7.holds Tryz.pinned (.plain (OpenSpec.upto certNothingSpec)) certNothingUptoCard

/-- THE SECOND FORM's CARD OF 'madrigallaw36.CertChecks'. -/
def certChecksUptoCard : Claim7 := { stood := { row := certChecksUptoRow, standIns := [], harness := (true, "578b08d891cace0eb6c0f6693ab8676fece35ad98d139ec7d8be82a3732ad6d6"), looks := false }, kinds := [], alts := [], laidByText := true, laidKinds := [.data, .data, .data, .data, .pinned], laidTests := true, laidLooks := .later }
def CertChecksUptoCardSaid : Prop := Claim7.holds Tryz.pinned (.plain (OpenSpec.upto certChecksSpec)) certChecksUptoCard

/-- THE SECOND FORM's CARD OF 'madrigallaw36.CertEquivalence'. -/
def certEquivalenceUptoCard : Claim7 := { stood := { row := certEquivalenceUptoRow, standIns := [], harness := (true, "578b08d891cace0eb6c0f6693ab8676fece35ad98d139ec7d8be82a3732ad6d6"), looks := false }, kinds := [], alts := [], laidByText := true, laidKinds := [.data, .data, .data, .data, .pinned], laidTests := true, laidLooks := .later }
def CertEquivalenceUptoCardSaid : Prop := Claim7.holds Tryz.pinned (.plain (OpenSpec.upto certEquivalenceSpec)) certEquivalenceUptoCard

/-- THE SECOND FORM's CARD OF 'madrigallaw36.CertTraces'. -/
def certTracesUptoCard : Claim7 := { stood := { row := certTracesUptoRow, standIns := [], harness := (true, "578b08d891cace0eb6c0f6693ab8676fece35ad98d139ec7d8be82a3732ad6d6"), looks := false }, kinds := [], alts := [], laidByText := true, laidKinds := [.data, .data, .data, .data, .pinned], laidTests := true, laidLooks := .later }
def CertTracesUptoCardSaid : Prop := Claim7.holds Tryz.pinned (.plain (OpenSpec.upto certTracesSpec)) certTracesUptoCard

/-- THE SECOND FORM's CARD OF 'madrigallaw36.CertBonds'. -/
def certBondsUptoCard : Claim7 := { stood := { row := certBondsUptoRow, standIns := [], harness := (true, "578b08d891cace0eb6c0f6693ab8676fece35ad98d139ec7d8be82a3732ad6d6"), looks := false }, kinds := [], alts := [], laidByText := true, laidKinds := [.data, .data, .data, .data, .pinned], laidTests := true, laidLooks := .later }
def CertBondsUptoCardSaid : Prop := Claim7.holds Tryz.pinned (.plain (OpenSpec.upto certBondsSpec)) certBondsUptoCard
end Rows
end Go.Proofs.YthmnhjcmefjgjaaGreatDoor
