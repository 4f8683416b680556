/-
  DERIVED. GIVEN WITH THE SEED: THE CARDS: each row of YtkciioajiopobaaGreatDoorRows.lean that lists a variable, with what it lists TIED to the program's text (the seventh form; the later family's looks); each row that meets fmt, with fmt's text TOLD by the authors' own Lean function (tested against real Go, not proved from fmt's source: count such statements apart). THE CARD IS WHAT COUNTS. Prove the row's statement (the work); the ties are given (YtkciioajiopobaaGreatDoorTie.lean); close each card by the builder's one call (the guide's Derived/Test/ToyasCard.lean, 'card_holds'). Laid BY PROGRAM, IN A SANDBOX (cutbox-door.mjs). By AI agents, Wed Nov 11 2026. No macro, syntax, notation, axiom, sorry.
-/
import Derived.Test.YtkciioajiopobaaGreatDoorRows
import GoSem.ClaimSeven
namespace Go.Proofs.YtkciioajiopobaaGreatDoor
namespace Rows

/-- THE TIED CARD OF 'pentroughlaw21.SchedOrder'. -/
def schedOrderCard : Claim7 := { stood := { row := schedOrderRow, standIns := [], harness := (true, "c0e8ed0bb51fec5d7eb6f5a3bbf2271093a614dd327a76bb98680170849fed14"), looks := true }, kinds := [], alts := [], laidByText := true, laidKinds := [.data, .data, .data, .data, .sentinel, .sentinel, .pinned, .pinned], laidTests := true, laidLooks := .later }
def SchedOrderCardSaid : Prop := Claim7.holds Tryz.pinned (.plain (OpenSpec.ofChange schedOrderSpec)) schedOrderCard

/-- THE TIED CARD OF 'pentroughlaw20.ConnWhole'. -/
def connWholeCard : Claim7 := { stood := { row := connWholeRow, standIns := [], harness := (true, "c0e8ed0bb51fec5d7eb6f5a3bbf2271093a614dd327a76bb98680170849fed14"), looks := true }, kinds := [], alts := [], laidByText := true, laidKinds := [.data, .data, .data, .data, .sentinel, .sentinel, .pinned, .pinned], laidTests := true, laidLooks := .later }
def ConnWholeCardSaid : Prop := Claim7.holds Tryz.pinned (.plain (OpenSpec.ofChange connWholeSpec)) connWholeCard

/-- THE TIED CARD OF 'pentroughlaw20.ConnBegins'. -/
def connBeginsCard : Claim7 := { stood := { row := connBeginsRow, standIns := [], harness := (true, "c0e8ed0bb51fec5d7eb6f5a3bbf2271093a614dd327a76bb98680170849fed14"), looks := true }, kinds := [], alts := [], laidByText := true, laidKinds := [.data, .data, .data, .data, .sentinel, .sentinel, .pinned, .pinned], laidTests := true, laidLooks := .later }
def ConnBeginsCardSaid : Prop := Claim7.holds Tryz.pinned (.plain (OpenSpec.ofChange connBeginsSpec)) connBeginsCard

/-- THE TIED CARD OF 'pentroughlaw21.SchedReady'. -/
def schedReadyCard : Claim7 := { stood := { row := schedReadyRow, standIns := [], harness := (true, "c0e8ed0bb51fec5d7eb6f5a3bbf2271093a614dd327a76bb98680170849fed14"), looks := true }, kinds := [], alts := [], laidByText := true, laidKinds := [.data, .data, .data, .data, .sentinel, .sentinel, .pinned, .pinned], laidTests := true, laidLooks := .later }
def SchedReadyCardSaid : Prop := Claim7.holds Tryz.pinned (.plain (OpenSpec.ofChange schedReadySpec)) schedReadyCard

/-- THE TIED CARD OF 'pentroughlaw21.SchedParts'. -/
def schedPartsCard : Claim7 := { stood := { row := schedPartsRow, standIns := [], harness := (true, "c0e8ed0bb51fec5d7eb6f5a3bbf2271093a614dd327a76bb98680170849fed14"), looks := true }, kinds := [], alts := [], laidByText := true, laidKinds := [.data, .data, .data, .data, .sentinel, .sentinel, .pinned, .pinned], laidTests := true, laidLooks := .later }
def SchedPartsCardSaid : Prop := Claim7.holds Tryz.pinned (.plain (OpenSpec.ofChange schedPartsSpec)) schedPartsCard

/-- THE TIED CARD OF 'pentroughlaw22.TableRoom'. -/
def tableRoomCard : Claim7 := { stood := { row := tableRoomRow, standIns := [], harness := (true, "c0e8ed0bb51fec5d7eb6f5a3bbf2271093a614dd327a76bb98680170849fed14"), looks := true }, kinds := [], alts := [], laidByText := true, laidKinds := [.data, .data, .data, .data, .sentinel, .sentinel, .pinned, .pinned], laidTests := true, laidLooks := .later }
def TableRoomCardSaid : Prop := Claim7.holds Tryz.pinned (.plain (OpenSpec.ofChange tableRoomSpec)) tableRoomCard

/-- THE TIED CARD OF 'pentroughlaw22.TableOver'. -/
def tableOverCard : Claim7 := { stood := { row := tableOverRow, standIns := [], harness := (true, "c0e8ed0bb51fec5d7eb6f5a3bbf2271093a614dd327a76bb98680170849fed14"), looks := true }, kinds := [], alts := [], laidByText := true, laidKinds := [.data, .data, .data, .data, .sentinel, .sentinel, .pinned, .pinned], laidTests := true, laidLooks := .later }
def TableOverCardSaid : Prop := Claim7.holds Tryz.pinned (.plain (OpenSpec.ofChange tableOverSpec)) tableOverCard

/-- THE TIED CARD OF 'pentroughlaw22.TableShut'. -/
def tableShutCard : Claim7 := { stood := { row := tableShutRow, standIns := [], harness := (true, "c0e8ed0bb51fec5d7eb6f5a3bbf2271093a614dd327a76bb98680170849fed14"), looks := true }, kinds := [], alts := [], laidByText := true, laidKinds := [.data, .data, .data, .data, .sentinel, .sentinel, .pinned, .pinned], laidTests := true, laidLooks := .later }
def TableShutCardSaid : Prop := Claim7.holds Tryz.pinned (.plain (OpenSpec.ofChange tableShutSpec)) tableShutCard

/-- THE TIED CARD OF 'pentroughlaw22.TableOnce'. -/
def tableOnceCard : Claim7 := { stood := { row := tableOnceRow, standIns := [], harness := (true, "c0e8ed0bb51fec5d7eb6f5a3bbf2271093a614dd327a76bb98680170849fed14"), looks := true }, kinds := [], alts := [], laidByText := true, laidKinds := [.data, .data, .data, .data, .sentinel, .sentinel, .pinned, .pinned], laidTests := true, laidLooks := .later }
def TableOnceCardSaid : Prop := Claim7.holds Tryz.pinned (.plain (OpenSpec.ofChange tableOnceSpec)) tableOnceCard

/-- THE TIED CARD OF 'pentroughlaw21.SchedWhole'. -/
def schedWholeCard : Claim7 := { stood := { row := schedWholeRow, standIns := [], harness := (true, "c0e8ed0bb51fec5d7eb6f5a3bbf2271093a614dd327a76bb98680170849fed14"), looks := true }, kinds := [], alts := [], laidByText := true, laidKinds := [.data, .data, .data, .data, .sentinel, .sentinel, .pinned, .pinned], laidTests := true, laidLooks := .later }
def SchedWholeCardSaid : Prop := Claim7.holds Tryz.pinned (.plain (OpenSpec.ofChange schedWholeSpec)) schedWholeCard

/-- THE TIED CARD OF 'pentroughlaw22.TableRefused'. -/
def tableRefusedCard : Claim7 := { stood := { row := tableRefusedRow, standIns := [], harness := (true, "c0e8ed0bb51fec5d7eb6f5a3bbf2271093a614dd327a76bb98680170849fed14"), looks := true }, kinds := [], alts := [], laidByText := true, laidKinds := [.data, .data, .data, .data, .sentinel, .sentinel, .pinned, .pinned], laidTests := true, laidLooks := .later }
def TableRefusedCardSaid : Prop := Claim7.holds Tryz.pinned (.plain (OpenSpec.ofChange tableRefusedSpec)) tableRefusedCard

/-- THE TIED CARD OF 'pentroughlaw22.TableLive'. -/
def tableLiveCard : Claim7 := { stood := { row := tableLiveRow, standIns := [], harness := (true, "c0e8ed0bb51fec5d7eb6f5a3bbf2271093a614dd327a76bb98680170849fed14"), looks := true }, kinds := [], alts := [], laidByText := true, laidKinds := [.data, .data, .data, .data, .sentinel, .sentinel, .pinned, .pinned], laidTests := true, laidLooks := .later }
def TableLiveCardSaid : Prop := Claim7.holds Tryz.pinned (.plain (OpenSpec.ofChange tableLiveSpec)) tableLiveCard

/-- THE SECOND FORM's CARD OF 'pentroughlaw21.SchedOrder'. -/
def schedOrderUptoCard : Claim7 := { stood := { row := schedOrderUptoRow, standIns := [], harness := (true, "c0e8ed0bb51fec5d7eb6f5a3bbf2271093a614dd327a76bb98680170849fed14"), looks := true }, kinds := [], alts := [], laidByText := true, laidKinds := [.data, .data, .data, .data, .sentinel, .sentinel, .pinned, .pinned], laidTests := true, laidLooks := .later }
def SchedOrderUptoCardSaid : Prop := Claim7.holds Tryz.pinned (.plain (OpenSpec.upto schedOrderSpec)) schedOrderUptoCard

/-- THE SECOND FORM's CARD OF 'pentroughlaw20.ConnWhole'. -/
def connWholeUptoCard : Claim7 := { stood := { row := connWholeUptoRow, standIns := [], harness := (true, "c0e8ed0bb51fec5d7eb6f5a3bbf2271093a614dd327a76bb98680170849fed14"), looks := true }, kinds := [], alts := [], laidByText := true, laidKinds := [.data, .data, .data, .data, .sentinel, .sentinel, .pinned, .pinned], laidTests := true, laidLooks := .later }
def ConnWholeUptoCardSaid : Prop := Claim7.holds Tryz.pinned (.plain (OpenSpec.upto connWholeSpec)) connWholeUptoCard

/-- THE SECOND FORM's CARD OF 'pentroughlaw20.ConnBegins'. -/
def connBeginsUptoCard : Claim7 := { stood := { row := connBeginsUptoRow, standIns := [], harness := (true, "c0e8ed0bb51fec5d7eb6f5a3bbf2271093a614dd327a76bb98680170849fed14"), looks := true }, kinds := [], alts := [], laidByText := true, laidKinds := [.data, .data, .data, .data, .sentinel, .sentinel, .pinned, .pinned], laidTests := true, laidLooks := .later }
def ConnBeginsUptoCardSaid : Prop := Claim7.holds Tryz.pinned (.plain (OpenSpec.upto connBeginsSpec)) connBeginsUptoCard

/-- THE SECOND FORM's CARD OF 'pentroughlaw21.SchedReady'. -/
def schedReadyUptoCard : Claim7 := { stood := { row := schedReadyUptoRow, standIns := [], harness := (true, "c0e8ed0bb51fec5d7eb6f5a3bbf2271093a614dd327a76bb98680170849fed14"), looks := true }, kinds := [], alts := [], laidByText := true, laidKinds := [.data, .data, .data, .data, .sentinel, .sentinel, .pinned, .pinned], laidTests := true, laidLooks := .later }
def SchedReadyUptoCardSaid : Prop := Claim7.holds Tryz.pinned (.plain (OpenSpec.upto schedReadySpec)) schedReadyUptoCard

/-- THE SECOND FORM's CARD OF 'pentroughlaw21.SchedParts'. -/
def schedPartsUptoCard : Claim7 := { stood := { row := schedPartsUptoRow, standIns := [], harness := (true, "c0e8ed0bb51fec5d7eb6f5a3bbf2271093a614dd327a76bb98680170849fed14"), looks := true }, kinds := [], alts := [], laidByText := true, laidKinds := [.data, .data, .data, .data, .sentinel, .sentinel, .pinned, .pinned], laidTests := true, laidLooks := .later }
def SchedPartsUptoCardSaid : Prop := Claim7.holds Tryz.pinned (.plain (OpenSpec.upto schedPartsSpec)) schedPartsUptoCard

/-- THE SECOND FORM's CARD OF 'pentroughlaw22.TableRoom'. -/
def tableRoomUptoCard : Claim7 := { stood := { row := tableRoomUptoRow, standIns := [], harness := (true, "c0e8ed0bb51fec5d7eb6f5a3bbf2271093a614dd327a76bb98680170849fed14"), looks := true }, kinds := [], alts := [], laidByText := true, laidKinds := [.data, .data, .data, .data, .sentinel, .sentinel, .pinned, .pinned], laidTests := true, laidLooks := .later }
def TableRoomUptoCardSaid : Prop := Claim7.holds Tryz.pinned (.plain (OpenSpec.upto tableRoomSpec)) tableRoomUptoCard

/-- THE SECOND FORM's CARD OF 'pentroughlaw22.TableOver'. -/
def tableOverUptoCard : Claim7 := { stood := { row := tableOverUptoRow, standIns := [], harness := (true, "c0e8ed0bb51fec5d7eb6f5a3bbf2271093a614dd327a76bb98680170849fed14"), looks := true }, kinds := [], alts := [], laidByText := true, laidKinds := [.data, .data, .data, .data, .sentinel, .sentinel, .pinned, .pinned], laidTests := true, laidLooks := .later }
def TableOverUptoCardSaid : Prop := Claim7.holds Tryz.pinned (.plain (OpenSpec.upto tableOverSpec)) tableOverUptoCard

/-- THE SECOND FORM's CARD OF 'pentroughlaw22.TableShut'. -/
def tableShutUptoCard : Claim7 := { stood := { row := tableShutUptoRow, standIns := [], harness := (true, "c0e8ed0bb51fec5d7eb6f5a3bbf2271093a614dd327a76bb98680170849fed14"), looks := true }, kinds := [], alts := [], laidByText := true, laidKinds := [.data, .data, .data, .data, .sentinel, .sentinel, .pinned, .pinned], laidTests := true, laidLooks := .later }
def TableShutUptoCardSaid : Prop := Claim7.holds Tryz.pinned (.plain (OpenSpec.upto tableShutSpec)) tableShutUptoCard

/-- THE SECOND FORM's CARD OF 'pentroughlaw22.TableOnce'. -/
def tableOnceUptoCard : Claim7 := { stood := { row := tableOnceUptoRow, standIns := [], harness := (true, "c0e8ed0bb51fec5d7eb6f5a3bbf2271093a614dd327a76bb98680170849fed14"), looks := true }, kinds := [], alts := [], laidByText := true, laidKinds := [.data, .data, .data, .data, .sentinel, .sentinel, .pinned, .pinned], laidTests := true, laidLooks := .later }
def TableOnceUptoCardSaid : Prop := Claim7.holds Tryz.pinned (.plain (OpenSpec.upto tableOnceSpec)) tableOnceUptoCard

/-- THE SECOND FORM's CARD OF 'pentroughlaw21.SchedWhole'. -/
def schedWholeUptoCard : Claim7 := { stood := { row := schedWholeUptoRow, standIns := [], harness := (true, "c0e8ed0bb51fec5d7eb6f5a3bbf2271093a614dd327a76bb98680170849fed14"), looks := true }, kinds := [], alts := [], laidByText := true, laidKinds := [.data, .data, .data, .data, .sentinel, .sentinel, .pinned, .pinned], laidTests := true, laidLooks := .later }
def SchedWholeUptoCardSaid : Prop := Claim7.holds Tryz.pinned (.plain (OpenSpec.upto schedWholeSpec)) schedWholeUptoCard

/-- THE SECOND FORM's CARD OF 'pentroughlaw22.TableRefused'. -/
def tableRefusedUptoCard : Claim7 := { stood := { row := tableRefusedUptoRow, standIns := [], harness := (true, "c0e8ed0bb51fec5d7eb6f5a3bbf2271093a614dd327a76bb98680170849fed14"), looks := true }, kinds := [], alts := [], laidByText := true, laidKinds := [.data, .data, .data, .data, .sentinel, .sentinel, .pinned, .pinned], laidTests := true, laidLooks := .later }
def TableRefusedUptoCardSaid : Prop := Claim7.holds Tryz.pinned (.plain (OpenSpec.upto tableRefusedSpec)) tableRefusedUptoCard

/-- THE SECOND FORM's CARD OF 'pentroughlaw22.TableLive'. -/
def tableLiveUptoCard : Claim7 := { stood := { row := tableLiveUptoRow, standIns := [], harness := (true, "c0e8ed0bb51fec5d7eb6f5a3bbf2271093a614dd327a76bb98680170849fed14"), looks := true }, kinds := [], alts := [], laidByText := true, laidKinds := [.data, .data, .data, .data, .sentinel, .sentinel, .pinned, .pinned], laidTests := true, laidLooks := .later }
def TableLiveUptoCardSaid : Prop := Claim7.holds Tryz.pinned (.plain (OpenSpec.upto tableLiveSpec)) tableLiveUptoCard
end Rows
end Go.Proofs.YtkciioajiopobaaGreatDoor
