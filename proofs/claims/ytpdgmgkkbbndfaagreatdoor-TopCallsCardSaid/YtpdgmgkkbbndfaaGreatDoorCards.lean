/-
  DERIVED. GIVEN WITH THE SEED: THE CARDS: each row of YtpdgmgkkbbndfaaGreatDoorRows.lean that lists a variable, with what it lists TIED to the program's text (the seventh form; the later family's looks); each row that meets fmt, with fmt's text TOLD by the authors' own Lean function (tested against real Go, not proved from fmt's source: count such statements apart). THE CARD IS WHAT COUNTS. Prove the row's statement (the work); the ties are given (YtpdgmgkkbbndfaaGreatDoorTie.lean); close each card by the builder's one call (the guide's Derived/Test/ToyasCard.lean, 'card_holds'). Laid BY PROGRAM, IN A SANDBOX (cutbox-door.mjs). By AI agents, Wed Nov 11 2026. No macro, syntax, notation, axiom, sorry.
-/
import Derived.Test.YtpdgmgkkbbndfaaGreatDoorRows
import GoSem.ClaimSeven
namespace Go.Proofs.YtpdgmgkkbbndfaaGreatDoor
namespace Rows

/-- THE TIED CARD OF 'lychgatelaw14.SipRewrites'. -/
def sipRewritesCard : Claim7 := { stood := { row := sipRewritesRow, standIns := [], harness := (true, "d99840f17ae73f8cb731d6657f0646ee652f6206e98089961ee7993f78fe908f"), looks := true }, kinds := [], alts := [], laidByText := true, laidKinds := [.data, .data, .data, .data, .sentinel, .sentinel, .sentinel, .pinned], laidTests := true, laidLooks := .later }
def SipRewritesCardSaid : Prop := Claim7.holds Tryz.pinned (.plain (OpenSpec.ofChange sipRewritesSpec)) sipRewritesCard

/-- THE TIED CARD OF 'lychgatelaw14.SipRight'. -/
def sipRightCard : Claim7 := { stood := { row := sipRightRow, standIns := [], harness := (true, "d99840f17ae73f8cb731d6657f0646ee652f6206e98089961ee7993f78fe908f"), looks := true }, kinds := [], alts := [], laidByText := true, laidKinds := [.data, .data, .data, .data, .sentinel, .sentinel, .sentinel, .pinned], laidTests := true, laidLooks := .later }
def SipRightCardSaid : Prop := Claim7.holds Tryz.pinned (.plain (OpenSpec.ofChange sipRightSpec)) sipRightCard

/-- THE TIED CARD OF 'lychgatelaw14.SipHides'. -/
def sipHidesCard : Claim7 := { stood := { row := sipHidesRow, standIns := [], harness := (true, "d99840f17ae73f8cb731d6657f0646ee652f6206e98089961ee7993f78fe908f"), looks := true }, kinds := [], alts := [], laidByText := true, laidKinds := [.data, .data, .data, .data, .sentinel, .sentinel, .sentinel, .pinned], laidTests := true, laidLooks := .later }
def SipHidesCardSaid : Prop := Claim7.holds Tryz.pinned (.plain (OpenSpec.ofChange sipHidesSpec)) sipHidesCard

/-- THE TIED CARD OF 'lychgatelaw14.SipBuilds'. -/
def sipBuildsCard : Claim7 := { stood := { row := sipBuildsRow, standIns := [], harness := (true, "d99840f17ae73f8cb731d6657f0646ee652f6206e98089961ee7993f78fe908f"), looks := true }, kinds := [], alts := [], laidByText := true, laidKinds := [.data, .data, .data, .data, .sentinel, .sentinel, .sentinel, .pinned], laidTests := true, laidLooks := .later }
def SipBuildsCardSaid : Prop := Claim7.holds Tryz.pinned (.plain (OpenSpec.ofChange sipBuildsSpec)) sipBuildsCard

/-- THE TIED CARD OF 'lychgatetop.TopCalls'. -/
def topCallsCard : Claim7 := { stood := { row := topCallsRow, standIns := [], harness := (true, "d99840f17ae73f8cb731d6657f0646ee652f6206e98089961ee7993f78fe908f"), looks := true }, kinds := [], alts := [], laidByText := true, laidKinds := [.data, .data, .data, .data, .sentinel, .sentinel, .pinned], laidTests := true, laidLooks := .later }
def TopCallsCardSaid : Prop := Claim7.holds Tryz.pinned (.plain (OpenSpec.ofChange topCallsSpec)) topCallsCard

/-- THE TIED CARD OF 'lychgatelaw14.SipSelf'. -/
def sipSelfCard : Claim7 := { stood := { row := sipSelfRow, standIns := [], harness := (true, "d99840f17ae73f8cb731d6657f0646ee652f6206e98089961ee7993f78fe908f"), looks := true }, kinds := [], alts := [], laidByText := true, laidKinds := [.data, .data, .data, .data, .sentinel, .sentinel, .sentinel, .pinned], laidTests := true, laidLooks := .later }
def SipSelfCardSaid : Prop := Claim7.holds Tryz.pinned (.plain (OpenSpec.ofChange sipSelfSpec)) sipSelfCard

/-- THE TIED CARD OF 'lychgatelaw14.SipOthers'. -/
def sipOthersCard : Claim7 := { stood := { row := sipOthersRow, standIns := [], harness := (true, "d99840f17ae73f8cb731d6657f0646ee652f6206e98089961ee7993f78fe908f"), looks := true }, kinds := [], alts := [], laidByText := true, laidKinds := [.data, .data, .data, .data, .sentinel, .sentinel, .sentinel, .pinned], laidTests := true, laidLooks := .later }
def SipOthersCardSaid : Prop := Claim7.holds Tryz.pinned (.plain (OpenSpec.ofChange sipOthersSpec)) sipOthersCard

/-- THE TIED CARD OF 'lychgatelaw14.SipPorts'. -/
def sipPortsCard : Claim7 := { stood := { row := sipPortsRow, standIns := [], harness := (true, "d99840f17ae73f8cb731d6657f0646ee652f6206e98089961ee7993f78fe908f"), looks := true }, kinds := [], alts := [], laidByText := true, laidKinds := [.data, .data, .data, .data, .sentinel, .sentinel, .sentinel, .pinned], laidTests := true, laidLooks := .later }
def SipPortsCardSaid : Prop := Claim7.holds Tryz.pinned (.plain (OpenSpec.ofChange sipPortsSpec)) sipPortsCard

/-- THE TIED CARD OF 'lychgatelaw14.SipParses'. -/
def sipParsesCard : Claim7 := { stood := { row := sipParsesRow, standIns := [], harness := (true, "d99840f17ae73f8cb731d6657f0646ee652f6206e98089961ee7993f78fe908f"), looks := true }, kinds := [], alts := [], laidByText := true, laidKinds := [.data, .data, .data, .data, .sentinel, .sentinel, .sentinel, .pinned], laidTests := true, laidLooks := .later }
def SipParsesCardSaid : Prop := Claim7.holds Tryz.pinned (.plain (OpenSpec.ofChange sipParsesSpec)) sipParsesCard

/-- THE TIED CARD OF 'lychgatelaw14.SipBack'. -/
def sipBackCard : Claim7 := { stood := { row := sipBackRow, standIns := [], harness := (true, "d99840f17ae73f8cb731d6657f0646ee652f6206e98089961ee7993f78fe908f"), looks := true }, kinds := [], alts := [], laidByText := true, laidKinds := [.data, .data, .data, .data, .sentinel, .sentinel, .sentinel, .pinned], laidTests := true, laidLooks := .later }
def SipBackCardSaid : Prop := Claim7.holds Tryz.pinned (.plain (OpenSpec.ofChange sipBackSpec)) sipBackCard

/-- THE SECOND FORM's CARD OF 'lychgatelaw14.SipRewrites'. -/
def sipRewritesUptoCard : Claim7 := { stood := { row := sipRewritesUptoRow, standIns := [], harness := (true, "d99840f17ae73f8cb731d6657f0646ee652f6206e98089961ee7993f78fe908f"), looks := true }, kinds := [], alts := [], laidByText := true, laidKinds := [.data, .data, .data, .data, .sentinel, .sentinel, .sentinel, .pinned], laidTests := true, laidLooks := .later }
def SipRewritesUptoCardSaid : Prop := Claim7.holds Tryz.pinned (.plain (OpenSpec.upto sipRewritesSpec)) sipRewritesUptoCard

/-- THE SECOND FORM's CARD OF 'lychgatelaw14.SipRight'. -/
def sipRightUptoCard : Claim7 := { stood := { row := sipRightUptoRow, standIns := [], harness := (true, "d99840f17ae73f8cb731d6657f0646ee652f6206e98089961ee7993f78fe908f"), looks := true }, kinds := [], alts := [], laidByText := true, laidKinds := [.data, .data, .data, .data, .sentinel, .sentinel, .sentinel, .pinned], laidTests := true, laidLooks := .later }
def SipRightUptoCardSaid : Prop := Claim7.holds Tryz.pinned (.plain (OpenSpec.upto sipRightSpec)) sipRightUptoCard

/-- THE SECOND FORM's CARD OF 'lychgatelaw14.SipHides'. -/
def sipHidesUptoCard : Claim7 := { stood := { row := sipHidesUptoRow, standIns := [], harness := (true, "d99840f17ae73f8cb731d6657f0646ee652f6206e98089961ee7993f78fe908f"), looks := true }, kinds := [], alts := [], laidByText := true, laidKinds := [.data, .data, .data, .data, .sentinel, .sentinel, .sentinel, .pinned], laidTests := true, laidLooks := .later }
def SipHidesUptoCardSaid : Prop := Claim7.holds Tryz.pinned (.plain (OpenSpec.upto sipHidesSpec)) sipHidesUptoCard

/-- THE SECOND FORM's CARD OF 'lychgatelaw14.SipBuilds'. -/
def sipBuildsUptoCard : Claim7 := { stood := { row := sipBuildsUptoRow, standIns := [], harness := (true, "d99840f17ae73f8cb731d6657f0646ee652f6206e98089961ee7993f78fe908f"), looks := true }, kinds := [], alts := [], laidByText := true, laidKinds := [.data, .data, .data, .data, .sentinel, .sentinel, .sentinel, .pinned], laidTests := true, laidLooks := .later }
def SipBuildsUptoCardSaid : Prop := Claim7.holds Tryz.pinned (.plain (OpenSpec.upto sipBuildsSpec)) sipBuildsUptoCard

/-- THE SECOND FORM's CARD OF 'lychgatetop.TopCalls'. -/
def topCallsUptoCard : Claim7 := { stood := { row := topCallsUptoRow, standIns := [], harness := (true, "d99840f17ae73f8cb731d6657f0646ee652f6206e98089961ee7993f78fe908f"), looks := true }, kinds := [], alts := [], laidByText := true, laidKinds := [.data, .data, .data, .data, .sentinel, .sentinel, .pinned], laidTests := true, laidLooks := .later }
def TopCallsUptoCardSaid : Prop := Claim7.holds Tryz.pinned (.plain (OpenSpec.upto topCallsSpec)) topCallsUptoCard

/-- THE SECOND FORM's CARD OF 'lychgatelaw14.SipSelf'. -/
def sipSelfUptoCard : Claim7 := { stood := { row := sipSelfUptoRow, standIns := [], harness := (true, "d99840f17ae73f8cb731d6657f0646ee652f6206e98089961ee7993f78fe908f"), looks := true }, kinds := [], alts := [], laidByText := true, laidKinds := [.data, .data, .data, .data, .sentinel, .sentinel, .sentinel, .pinned], laidTests := true, laidLooks := .later }
def SipSelfUptoCardSaid : Prop := Claim7.holds Tryz.pinned (.plain (OpenSpec.upto sipSelfSpec)) sipSelfUptoCard

/-- THE SECOND FORM's CARD OF 'lychgatelaw14.SipOthers'. -/
def sipOthersUptoCard : Claim7 := { stood := { row := sipOthersUptoRow, standIns := [], harness := (true, "d99840f17ae73f8cb731d6657f0646ee652f6206e98089961ee7993f78fe908f"), looks := true }, kinds := [], alts := [], laidByText := true, laidKinds := [.data, .data, .data, .data, .sentinel, .sentinel, .sentinel, .pinned], laidTests := true, laidLooks := .later }
def SipOthersUptoCardSaid : Prop := Claim7.holds Tryz.pinned (.plain (OpenSpec.upto sipOthersSpec)) sipOthersUptoCard

/-- THE SECOND FORM's CARD OF 'lychgatelaw14.SipPorts'. -/
def sipPortsUptoCard : Claim7 := { stood := { row := sipPortsUptoRow, standIns := [], harness := (true, "d99840f17ae73f8cb731d6657f0646ee652f6206e98089961ee7993f78fe908f"), looks := true }, kinds := [], alts := [], laidByText := true, laidKinds := [.data, .data, .data, .data, .sentinel, .sentinel, .sentinel, .pinned], laidTests := true, laidLooks := .later }
def SipPortsUptoCardSaid : Prop := Claim7.holds Tryz.pinned (.plain (OpenSpec.upto sipPortsSpec)) sipPortsUptoCard

/-- THE SECOND FORM's CARD OF 'lychgatelaw14.SipParses'. -/
def sipParsesUptoCard : Claim7 := { stood := { row := sipParsesUptoRow, standIns := [], harness := (true, "d99840f17ae73f8cb731d6657f0646ee652f6206e98089961ee7993f78fe908f"), looks := true }, kinds := [], alts := [], laidByText := true, laidKinds := [.data, .data, .data, .data, .sentinel, .sentinel, .sentinel, .pinned], laidTests := true, laidLooks := .later }
def SipParsesUptoCardSaid : Prop := Claim7.holds Tryz.pinned (.plain (OpenSpec.upto sipParsesSpec)) sipParsesUptoCard

/-- THE SECOND FORM's CARD OF 'lychgatelaw14.SipBack'. -/
def sipBackUptoCard : Claim7 := { stood := { row := sipBackUptoRow, standIns := [], harness := (true, "d99840f17ae73f8cb731d6657f0646ee652f6206e98089961ee7993f78fe908f"), looks := true }, kinds := [], alts := [], laidByText := true, laidKinds := [.data, .data, .data, .data, .sentinel, .sentinel, .sentinel, .pinned], laidTests := true, laidLooks := .later }
def SipBackUptoCardSaid : Prop := Claim7.holds Tryz.pinned (.plain (OpenSpec.upto sipBackSpec)) sipBackUptoCard
end Rows
end Go.Proofs.YtpdgmgkkbbndfaaGreatDoor
