/-
  DERIVED. GIVEN WITH THE SEED: THE CARDS: each row of YtgnjkigknenkgaaGreatDoorRows.lean that lists a variable, with what it lists TIED to the program's text (the seventh form; the later family's looks); each row that meets fmt, with fmt's text TOLD by the authors' own Lean function (tested against real Go, not proved from fmt's source: count such statements apart). THE CARD IS WHAT COUNTS. Prove the row's statement (the work); the ties are given (YtgnjkigknenkgaaGreatDoorTie.lean); close each card by the builder's one call (the guide's Derived/Test/ToyasCard.lean, 'card_holds'). Laid BY PROGRAM, IN A SANDBOX (cutbox-door.mjs). By AI agents, Wed Nov 11 2026. No macro, syntax, notation, axiom, sorry.
-/
import Derived.Test.YtgnjkigknenkgaaGreatDoorRows
import GoSem.ClaimSeven
namespace Go.Proofs.YtgnjkigknenkgaaGreatDoor
namespace Rows

/-- THE TIED CARD OF 'furlonglaw10.PlotTells'. -/
def plotTellsCard : Claim7 := { stood := { row := plotTellsRow, standIns := [], harness := (true, "deaf46d4179491985b19820fc00435b444135da90009bd8e6fa437d0f910f9a4"), looks := true }, kinds := [], alts := [], laidByText := true, laidKinds := [.data, .data, .data, .sentinel, .sentinel], laidTests := true, laidLooks := .later }
def PlotTellsCardSaid : Prop := Claim7.holds Tryz.pinned (.plain (OpenSpec.ofChange plotTellsSpec)) plotTellsCard

/-- THE TIED CARD OF 'furlonglaw12.MemberOf'. -/
def memberOfCard : Claim7 := { stood := { row := memberOfRow, standIns := [], harness := (true, "deaf46d4179491985b19820fc00435b444135da90009bd8e6fa437d0f910f9a4"), looks := true }, kinds := [], alts := [], laidByText := true, laidKinds := [.data, .data, .data, .sentinel, .sentinel], laidTests := true, laidLooks := .later }
def MemberOfCardSaid : Prop := Claim7.holds Tryz.pinned (.plain (OpenSpec.ofChange memberOfSpec)) memberOfCard

/-- THE TIED CARD OF 'furlonglaw12.MemberMay'. -/
def memberMayCard : Claim7 := { stood := { row := memberMayRow, standIns := [], harness := (true, "deaf46d4179491985b19820fc00435b444135da90009bd8e6fa437d0f910f9a4"), looks := true }, kinds := [], alts := [], laidByText := true, laidKinds := [.data, .data, .data, .sentinel, .sentinel], laidTests := true, laidLooks := .later }
def MemberMayCardSaid : Prop := Claim7.holds Tryz.pinned (.plain (OpenSpec.ofChange memberMaySpec)) memberMayCard

/-- THE TIED CARD OF 'furlonglaw12.MemberAgreed'. -/
def memberAgreedCard : Claim7 := { stood := { row := memberAgreedRow, standIns := [], harness := (true, "deaf46d4179491985b19820fc00435b444135da90009bd8e6fa437d0f910f9a4"), looks := true }, kinds := [], alts := [], laidByText := true, laidKinds := [.data, .data, .data, .sentinel, .sentinel], laidTests := true, laidLooks := .later }
def MemberAgreedCardSaid : Prop := Claim7.holds Tryz.pinned (.plain (OpenSpec.ofChange memberAgreedSpec)) memberAgreedCard

/-- THE TIED CARD OF 'furlonglaw12.MemberMost'. -/
def memberMostCard : Claim7 := { stood := { row := memberMostRow, standIns := [], harness := (true, "deaf46d4179491985b19820fc00435b444135da90009bd8e6fa437d0f910f9a4"), looks := true }, kinds := [], alts := [], laidByText := true, laidKinds := [.data, .data, .data, .sentinel, .sentinel], laidTests := true, laidLooks := .later }
def MemberMostCardSaid : Prop := Claim7.holds Tryz.pinned (.plain (OpenSpec.ofChange memberMostSpec)) memberMostCard

/-- THE TIED CARD OF 'furlonglaw12.MemberMeet'. -/
def memberMeetCard : Claim7 := { stood := { row := memberMeetRow, standIns := [], harness := (true, "deaf46d4179491985b19820fc00435b444135da90009bd8e6fa437d0f910f9a4"), looks := true }, kinds := [], alts := [], laidByText := true, laidKinds := [.data, .data, .data, .sentinel, .sentinel], laidTests := true, laidLooks := .later }
def MemberMeetCardSaid : Prop := Claim7.holds Tryz.pinned (.plain (OpenSpec.ofChange memberMeetSpec)) memberMeetCard

/-- THE TIED CARD OF 'furlonglaw12.MemberSame'. -/
def memberSameCard : Claim7 := { stood := { row := memberSameRow, standIns := [], harness := (true, "deaf46d4179491985b19820fc00435b444135da90009bd8e6fa437d0f910f9a4"), looks := true }, kinds := [], alts := [], laidByText := true, laidKinds := [.data, .data, .data, .sentinel, .sentinel], laidTests := true, laidLooks := .later }
def MemberSameCardSaid : Prop := Claim7.holds Tryz.pinned (.plain (OpenSpec.ofChange memberSameSpec)) memberSameCard

/-- THE SECOND FORM's CARD OF 'furlonglaw10.PlotTells'. -/
def plotTellsUptoCard : Claim7 := { stood := { row := plotTellsUptoRow, standIns := [], harness := (true, "deaf46d4179491985b19820fc00435b444135da90009bd8e6fa437d0f910f9a4"), looks := true }, kinds := [], alts := [], laidByText := true, laidKinds := [.data, .data, .data, .sentinel, .sentinel], laidTests := true, laidLooks := .later }
def PlotTellsUptoCardSaid : Prop := Claim7.holds Tryz.pinned (.plain (OpenSpec.upto plotTellsSpec)) plotTellsUptoCard

/-- THE SECOND FORM's CARD OF 'furlonglaw12.MemberOf'. -/
def memberOfUptoCard : Claim7 := { stood := { row := memberOfUptoRow, standIns := [], harness := (true, "deaf46d4179491985b19820fc00435b444135da90009bd8e6fa437d0f910f9a4"), looks := true }, kinds := [], alts := [], laidByText := true, laidKinds := [.data, .data, .data, .sentinel, .sentinel], laidTests := true, laidLooks := .later }
def MemberOfUptoCardSaid : Prop := Claim7.holds Tryz.pinned (.plain (OpenSpec.upto memberOfSpec)) memberOfUptoCard

/-- THE SECOND FORM's CARD OF 'furlonglaw12.MemberMay'. -/
def memberMayUptoCard : Claim7 := { stood := { row := memberMayUptoRow, standIns := [], harness := (true, "deaf46d4179491985b19820fc00435b444135da90009bd8e6fa437d0f910f9a4"), looks := true }, kinds := [], alts := [], laidByText := true, laidKinds := [.data, .data, .data, .sentinel, .sentinel], laidTests := true, laidLooks := .later }
def MemberMayUptoCardSaid : Prop := Claim7.holds Tryz.pinned (.plain (OpenSpec.upto memberMaySpec)) memberMayUptoCard

/-- THE SECOND FORM's CARD OF 'furlonglaw12.MemberAgreed'. -/
def memberAgreedUptoCard : Claim7 := { stood := { row := memberAgreedUptoRow, standIns := [], harness := (true, "deaf46d4179491985b19820fc00435b444135da90009bd8e6fa437d0f910f9a4"), looks := true }, kinds := [], alts := [], laidByText := true, laidKinds := [.data, .data, .data, .sentinel, .sentinel], laidTests := true, laidLooks := .later }
def MemberAgreedUptoCardSaid : Prop := Claim7.holds Tryz.pinned (.plain (OpenSpec.upto memberAgreedSpec)) memberAgreedUptoCard

/-- THE SECOND FORM's CARD OF 'furlonglaw12.MemberMost'. -/
def memberMostUptoCard : Claim7 := { stood := { row := memberMostUptoRow, standIns := [], harness := (true, "deaf46d4179491985b19820fc00435b444135da90009bd8e6fa437d0f910f9a4"), looks := true }, kinds := [], alts := [], laidByText := true, laidKinds := [.data, .data, .data, .sentinel, .sentinel], laidTests := true, laidLooks := .later }
def MemberMostUptoCardSaid : Prop := Claim7.holds Tryz.pinned (.plain (OpenSpec.upto memberMostSpec)) memberMostUptoCard

/-- THE SECOND FORM's CARD OF 'furlonglaw12.MemberMeet'. -/
def memberMeetUptoCard : Claim7 := { stood := { row := memberMeetUptoRow, standIns := [], harness := (true, "deaf46d4179491985b19820fc00435b444135da90009bd8e6fa437d0f910f9a4"), looks := true }, kinds := [], alts := [], laidByText := true, laidKinds := [.data, .data, .data, .sentinel, .sentinel], laidTests := true, laidLooks := .later }
def MemberMeetUptoCardSaid : Prop := Claim7.holds Tryz.pinned (.plain (OpenSpec.upto memberMeetSpec)) memberMeetUptoCard

/-- THE SECOND FORM's CARD OF 'furlonglaw12.MemberSame'. -/
def memberSameUptoCard : Claim7 := { stood := { row := memberSameUptoRow, standIns := [], harness := (true, "deaf46d4179491985b19820fc00435b444135da90009bd8e6fa437d0f910f9a4"), looks := true }, kinds := [], alts := [], laidByText := true, laidKinds := [.data, .data, .data, .sentinel, .sentinel], laidTests := true, laidLooks := .later }
def MemberSameUptoCardSaid : Prop := Claim7.holds Tryz.pinned (.plain (OpenSpec.upto memberSameSpec)) memberSameUptoCard
end Rows
end Go.Proofs.YtgnjkigknenkgaaGreatDoor
