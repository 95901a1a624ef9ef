/-
  DERIVED. GIVEN WITH THE SEED: THE CARDS: each row of YticaddophhggoaaGreatDoorRows.lean that lists a variable, with what it lists TIED to the program's text (the seventh form; the later family's looks); each row that meets fmt, with fmt's text TOLD by the authors' own Lean function (tested against real Go, not proved from fmt's source: count such statements apart). THE CARD IS WHAT COUNTS. Prove the row's statement (the work); the ties are given (YticaddophhggoaaGreatDoorTie.lean); close each card by the builder's one call (the guide's Derived/Test/ToyasCard.lean, 'card_holds'). Laid BY PROGRAM, IN A SANDBOX (cutbox-door.mjs). By AI agents, Wed Nov 11 2026. No macro, syntax, notation, axiom, sorry.
-/
import Derived.Test.YticaddophhggoaaGreatDoorRows
import GoSem.ClaimSeven
namespace Go.Proofs.YticaddophhggoaaGreatDoor
namespace Rows

/-- THE TIED CARD OF 'laws.FnExactWalkPath'. -/
def fnExactWalkPathCard : Claim7 := { stood := { row := fnExactWalkPathRow, standIns := [], harness := (true, "1c8ba3c05b0583123198dc610ed39837e229e3a497aef9fe65e633848885a10c"), looks := false }, kinds := [], alts := [], laidByText := true, laidKinds := [.data, .pinned], laidTests := true, laidLooks := .later }
def FnExactWalkPathCardSaid : Prop := Claim7.holds Tryz.pinned (.plain (OpenSpec.ofChange fnExactWalkPathSpec)) fnExactWalkPathCard

/-- THE TIED CARD OF 'laws.FnExactWalkParent'. -/
def fnExactWalkParentCard : Claim7 := { stood := { row := fnExactWalkParentRow, standIns := [], harness := (true, "1c8ba3c05b0583123198dc610ed39837e229e3a497aef9fe65e633848885a10c"), looks := false }, kinds := [], alts := [], laidByText := true, laidKinds := [.data, .pinned], laidTests := true, laidLooks := .later }
def FnExactWalkParentCardSaid : Prop := Claim7.holds Tryz.pinned (.plain (OpenSpec.ofChange fnExactWalkParentSpec)) fnExactWalkParentCard

/-- THE TIED CARD OF 'laws.FnExactStatOf'. -/
def fnExactStatOfCard : Claim7 := { stood := { row := fnExactStatOfRow, standIns := [], harness := (true, "1c8ba3c05b0583123198dc610ed39837e229e3a497aef9fe65e633848885a10c"), looks := false }, kinds := [], alts := [], laidByText := true, laidKinds := [.data, .pinned], laidTests := true, laidLooks := .later }
def FnExactStatOfCardSaid : Prop := Claim7.holds Tryz.pinned (.plain (OpenSpec.ofChange fnExactStatOfSpec)) fnExactStatOfCard

/-- THE TIED CARD OF 'laws.FnWalks'. -/
def fnWalksCard : Claim7 := { stood := { row := fnWalksRow, standIns := [], harness := (true, "1c8ba3c05b0583123198dc610ed39837e229e3a497aef9fe65e633848885a10c"), looks := false }, kinds := [], alts := [], laidByText := true, laidKinds := [.data, .pinned], laidTests := true, laidLooks := .later }
def FnWalksCardSaid : Prop := Claim7.holds Tryz.pinned (.plain (OpenSpec.ofChange fnWalksSpec)) fnWalksCard

/-- THE SECOND FORM's CARD OF 'laws.FnExactWalkPath'. -/
def fnExactWalkPathUptoCard : Claim7 := { stood := { row := fnExactWalkPathUptoRow, standIns := [], harness := (true, "1c8ba3c05b0583123198dc610ed39837e229e3a497aef9fe65e633848885a10c"), looks := false }, kinds := [], alts := [], laidByText := true, laidKinds := [.data, .pinned], laidTests := true, laidLooks := .later }
def FnExactWalkPathUptoCardSaid : Prop := Claim7.holds Tryz.pinned (.plain (OpenSpec.upto fnExactWalkPathSpec)) fnExactWalkPathUptoCard

/-- THE SECOND FORM's CARD OF 'laws.FnExactWalkParent'. -/
def fnExactWalkParentUptoCard : Claim7 := { stood := { row := fnExactWalkParentUptoRow, standIns := [], harness := (true, "1c8ba3c05b0583123198dc610ed39837e229e3a497aef9fe65e633848885a10c"), looks := false }, kinds := [], alts := [], laidByText := true, laidKinds := [.data, .pinned], laidTests := true, laidLooks := .later }
def FnExactWalkParentUptoCardSaid : Prop := Claim7.holds Tryz.pinned (.plain (OpenSpec.upto fnExactWalkParentSpec)) fnExactWalkParentUptoCard

/-- THE SECOND FORM's CARD OF 'laws.FnExactStatOf'. -/
def fnExactStatOfUptoCard : Claim7 := { stood := { row := fnExactStatOfUptoRow, standIns := [], harness := (true, "1c8ba3c05b0583123198dc610ed39837e229e3a497aef9fe65e633848885a10c"), looks := false }, kinds := [], alts := [], laidByText := true, laidKinds := [.data, .pinned], laidTests := true, laidLooks := .later }
def FnExactStatOfUptoCardSaid : Prop := Claim7.holds Tryz.pinned (.plain (OpenSpec.upto fnExactStatOfSpec)) fnExactStatOfUptoCard

/-- THE SECOND FORM's CARD OF 'laws.FnWalks'. -/
def fnWalksUptoCard : Claim7 := { stood := { row := fnWalksUptoRow, standIns := [], harness := (true, "1c8ba3c05b0583123198dc610ed39837e229e3a497aef9fe65e633848885a10c"), looks := false }, kinds := [], alts := [], laidByText := true, laidKinds := [.data, .pinned], laidTests := true, laidLooks := .later }
def FnWalksUptoCardSaid : Prop := Claim7.holds Tryz.pinned (.plain (OpenSpec.upto fnWalksSpec)) fnWalksUptoCard
end Rows
end Go.Proofs.YticaddophhggoaaGreatDoor
