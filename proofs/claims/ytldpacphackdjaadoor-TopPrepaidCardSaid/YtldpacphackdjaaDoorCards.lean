/-
  DERIVED. GIVEN WITH THE SEED: THE CARDS: each row of YtldpacphackdjaaDoorRows.lean that lists a variable, with what it lists TIED to the program's text (the seventh form; the later family's looks); each row that meets fmt, with fmt's text TOLD by the authors' own Lean function (tested against real Go, not proved from fmt's source: count such statements apart). THE CARD IS WHAT COUNTS. Prove the row's statement (the work); the ties are given (YtldpacphackdjaaDoorTie.lean); close each card by the builder's one call (the guide's Derived/Test/ToyasCard.lean, 'card_holds'). Laid BY PROGRAM, IN A SANDBOX (cutbox-door.mjs). By AI agents, Wed Nov 11 2026. No macro, syntax, notation, axiom, sorry.
-/
import Derived.Test.YtldpacphackdjaaDoorRows
import GoSem.ClaimSeven
namespace Go.Proofs.YtldpacphackdjaaDoor
namespace Rows

/-- THE TIED CARD OF 'crossbartop.TopPrepaid'. -/
def topPrepaidCard : Claim7 := { stood := { row := topPrepaidRow, standIns := [], harness := (true, "c6b3ca15eeae2f32f6d0c79947d06c72ccb3dbf6dec362ad664e99e537b80e51"), looks := false }, kinds := [], alts := [], laidByText := true, laidKinds := [.data, .pinned], laidTests := true, laidLooks := .later }
def TopPrepaidCardSaid : Prop := Claim7.holds Tryd.pinned (.plain (OpenSpec.ofChange topPrepaidSpec)) topPrepaidCard

/-- THE TIED CARD OF 'crossbarlaw28.PrepaidMatchesReserve'. -/
def prepaidMatchesReserveCard : Claim7 := { stood := { row := prepaidMatchesReserveRow, standIns := [], harness := (true, "c6b3ca15eeae2f32f6d0c79947d06c72ccb3dbf6dec362ad664e99e537b80e51"), looks := false }, kinds := [], alts := [], laidByText := true, laidKinds := [.data, .pinned], laidTests := true, laidLooks := .later }
def PrepaidMatchesReserveCardSaid : Prop := Claim7.holds Tryd.pinned (.plain (OpenSpec.ofChange prepaidMatchesReserveSpec)) prepaidMatchesReserveCard

/-- THE TIED CARD OF 'crossbarlaw28.PrepaidChunksAffordAll'. -/
def prepaidChunksAffordAllCard : Claim7 := { stood := { row := prepaidChunksAffordAllRow, standIns := [], harness := (true, "c6b3ca15eeae2f32f6d0c79947d06c72ccb3dbf6dec362ad664e99e537b80e51"), looks := false }, kinds := [], alts := [], laidByText := true, laidKinds := [.data, .pinned], laidTests := true, laidLooks := .later }
def PrepaidChunksAffordAllCardSaid : Prop := Claim7.holds Tryd.pinned (.plain (OpenSpec.ofChange prepaidChunksAffordAllSpec)) prepaidChunksAffordAllCard

/-- THE TIED CARD OF 'crossbarlaw28.PrepaidCallsIndependent'. -/
def prepaidCallsIndependentCard : Claim7 := { stood := { row := prepaidCallsIndependentRow, standIns := [], harness := (true, "c6b3ca15eeae2f32f6d0c79947d06c72ccb3dbf6dec362ad664e99e537b80e51"), looks := false }, kinds := [], alts := [], laidByText := true, laidKinds := [.data, .pinned], laidTests := true, laidLooks := .later }
def PrepaidCallsIndependentCardSaid : Prop := Claim7.holds Tryd.pinned (.plain (OpenSpec.ofChange prepaidCallsIndependentSpec)) prepaidCallsIndependentCard

/-- THE TIED CARD OF 'crossbarlaw28.PrepaidSettleBounded'. -/
def prepaidSettleBoundedCard : Claim7 := { stood := { row := prepaidSettleBoundedRow, standIns := [], harness := (true, "c6b3ca15eeae2f32f6d0c79947d06c72ccb3dbf6dec362ad664e99e537b80e51"), looks := false }, kinds := [], alts := [], laidByText := true, laidKinds := [.data, .pinned], laidTests := true, laidLooks := .later }
def PrepaidSettleBoundedCardSaid : Prop := Claim7.holds Tryd.pinned (.plain (OpenSpec.ofChange prepaidSettleBoundedSpec)) prepaidSettleBoundedCard

/-- THE TIED CARD OF 'crossbarlaw28.PrepaidMatchesAccounts'. -/
def prepaidMatchesAccountsCard : Claim7 := { stood := { row := prepaidMatchesAccountsRow, standIns := [], harness := (true, "c6b3ca15eeae2f32f6d0c79947d06c72ccb3dbf6dec362ad664e99e537b80e51"), looks := false }, kinds := [], alts := [], laidByText := true, laidKinds := [.data, .pinned], laidTests := true, laidLooks := .later }
def PrepaidMatchesAccountsCardSaid : Prop := Claim7.holds Tryd.pinned (.plain (OpenSpec.ofChange prepaidMatchesAccountsSpec)) prepaidMatchesAccountsCard

/-- THE TIED CARD OF 'crossbarlaw28.PrepaidConservesCredit'. -/
def prepaidConservesCreditCard : Claim7 := { stood := { row := prepaidConservesCreditRow, standIns := [], harness := (true, "c6b3ca15eeae2f32f6d0c79947d06c72ccb3dbf6dec362ad664e99e537b80e51"), looks := false }, kinds := [], alts := [], laidByText := true, laidKinds := [.data, .pinned], laidTests := true, laidLooks := .later }
def PrepaidConservesCreditCardSaid : Prop := Claim7.holds Tryd.pinned (.plain (OpenSpec.ofChange prepaidConservesCreditSpec)) prepaidConservesCreditCard

/-- THE TIED CARD OF 'crossbarlaw28.PrepaidDeposits'. -/
def prepaidDepositsCard : Claim7 := { stood := { row := prepaidDepositsRow, standIns := [], harness := (true, "c6b3ca15eeae2f32f6d0c79947d06c72ccb3dbf6dec362ad664e99e537b80e51"), looks := false }, kinds := [], alts := [], laidByText := true, laidKinds := [.data, .pinned], laidTests := true, laidLooks := .later }
def PrepaidDepositsCardSaid : Prop := Claim7.holds Tryd.pinned (.plain (OpenSpec.ofChange prepaidDepositsSpec)) prepaidDepositsCard

/-- THE TIED CARD OF 'crossbarlaw28.PrepaidReservationPaysAhead'. -/
def prepaidReservationPaysAheadCard : Claim7 := { stood := { row := prepaidReservationPaysAheadRow, standIns := [], harness := (true, "c6b3ca15eeae2f32f6d0c79947d06c72ccb3dbf6dec362ad664e99e537b80e51"), looks := false }, kinds := [], alts := [], laidByText := true, laidKinds := [.data, .pinned], laidTests := true, laidLooks := .later }
def PrepaidReservationPaysAheadCardSaid : Prop := Claim7.holds Tryd.pinned (.plain (OpenSpec.ofChange prepaidReservationPaysAheadSpec)) prepaidReservationPaysAheadCard

/-- THE SECOND FORM's CARD OF 'crossbartop.TopPrepaid'. -/
def topPrepaidUptoCard : Claim7 := { stood := { row := topPrepaidUptoRow, standIns := [], harness := (true, "c6b3ca15eeae2f32f6d0c79947d06c72ccb3dbf6dec362ad664e99e537b80e51"), looks := false }, kinds := [], alts := [], laidByText := true, laidKinds := [.data, .pinned], laidTests := true, laidLooks := .later }
def TopPrepaidUptoCardSaid : Prop := Claim7.holds Tryd.pinned (.plain (OpenSpec.upto topPrepaidSpec)) topPrepaidUptoCard

/-- THE SECOND FORM's CARD OF 'crossbarlaw28.PrepaidMatchesReserve'. -/
def prepaidMatchesReserveUptoCard : Claim7 := { stood := { row := prepaidMatchesReserveUptoRow, standIns := [], harness := (true, "c6b3ca15eeae2f32f6d0c79947d06c72ccb3dbf6dec362ad664e99e537b80e51"), looks := false }, kinds := [], alts := [], laidByText := true, laidKinds := [.data, .pinned], laidTests := true, laidLooks := .later }
def PrepaidMatchesReserveUptoCardSaid : Prop := Claim7.holds Tryd.pinned (.plain (OpenSpec.upto prepaidMatchesReserveSpec)) prepaidMatchesReserveUptoCard

/-- THE SECOND FORM's CARD OF 'crossbarlaw28.PrepaidChunksAffordAll'. -/
def prepaidChunksAffordAllUptoCard : Claim7 := { stood := { row := prepaidChunksAffordAllUptoRow, standIns := [], harness := (true, "c6b3ca15eeae2f32f6d0c79947d06c72ccb3dbf6dec362ad664e99e537b80e51"), looks := false }, kinds := [], alts := [], laidByText := true, laidKinds := [.data, .pinned], laidTests := true, laidLooks := .later }
def PrepaidChunksAffordAllUptoCardSaid : Prop := Claim7.holds Tryd.pinned (.plain (OpenSpec.upto prepaidChunksAffordAllSpec)) prepaidChunksAffordAllUptoCard

/-- THE SECOND FORM's CARD OF 'crossbarlaw28.PrepaidCallsIndependent'. -/
def prepaidCallsIndependentUptoCard : Claim7 := { stood := { row := prepaidCallsIndependentUptoRow, standIns := [], harness := (true, "c6b3ca15eeae2f32f6d0c79947d06c72ccb3dbf6dec362ad664e99e537b80e51"), looks := false }, kinds := [], alts := [], laidByText := true, laidKinds := [.data, .pinned], laidTests := true, laidLooks := .later }
def PrepaidCallsIndependentUptoCardSaid : Prop := Claim7.holds Tryd.pinned (.plain (OpenSpec.upto prepaidCallsIndependentSpec)) prepaidCallsIndependentUptoCard

/-- THE SECOND FORM's CARD OF 'crossbarlaw28.PrepaidSettleBounded'. -/
def prepaidSettleBoundedUptoCard : Claim7 := { stood := { row := prepaidSettleBoundedUptoRow, standIns := [], harness := (true, "c6b3ca15eeae2f32f6d0c79947d06c72ccb3dbf6dec362ad664e99e537b80e51"), looks := false }, kinds := [], alts := [], laidByText := true, laidKinds := [.data, .pinned], laidTests := true, laidLooks := .later }
def PrepaidSettleBoundedUptoCardSaid : Prop := Claim7.holds Tryd.pinned (.plain (OpenSpec.upto prepaidSettleBoundedSpec)) prepaidSettleBoundedUptoCard

/-- THE SECOND FORM's CARD OF 'crossbarlaw28.PrepaidMatchesAccounts'. -/
def prepaidMatchesAccountsUptoCard : Claim7 := { stood := { row := prepaidMatchesAccountsUptoRow, standIns := [], harness := (true, "c6b3ca15eeae2f32f6d0c79947d06c72ccb3dbf6dec362ad664e99e537b80e51"), looks := false }, kinds := [], alts := [], laidByText := true, laidKinds := [.data, .pinned], laidTests := true, laidLooks := .later }
def PrepaidMatchesAccountsUptoCardSaid : Prop := Claim7.holds Tryd.pinned (.plain (OpenSpec.upto prepaidMatchesAccountsSpec)) prepaidMatchesAccountsUptoCard

/-- THE SECOND FORM's CARD OF 'crossbarlaw28.PrepaidConservesCredit'. -/
def prepaidConservesCreditUptoCard : Claim7 := { stood := { row := prepaidConservesCreditUptoRow, standIns := [], harness := (true, "c6b3ca15eeae2f32f6d0c79947d06c72ccb3dbf6dec362ad664e99e537b80e51"), looks := false }, kinds := [], alts := [], laidByText := true, laidKinds := [.data, .pinned], laidTests := true, laidLooks := .later }
def PrepaidConservesCreditUptoCardSaid : Prop := Claim7.holds Tryd.pinned (.plain (OpenSpec.upto prepaidConservesCreditSpec)) prepaidConservesCreditUptoCard

/-- THE SECOND FORM's CARD OF 'crossbarlaw28.PrepaidDeposits'. -/
def prepaidDepositsUptoCard : Claim7 := { stood := { row := prepaidDepositsUptoRow, standIns := [], harness := (true, "c6b3ca15eeae2f32f6d0c79947d06c72ccb3dbf6dec362ad664e99e537b80e51"), looks := false }, kinds := [], alts := [], laidByText := true, laidKinds := [.data, .pinned], laidTests := true, laidLooks := .later }
def PrepaidDepositsUptoCardSaid : Prop := Claim7.holds Tryd.pinned (.plain (OpenSpec.upto prepaidDepositsSpec)) prepaidDepositsUptoCard

/-- THE SECOND FORM's CARD OF 'crossbarlaw28.PrepaidReservationPaysAhead'. -/
def prepaidReservationPaysAheadUptoCard : Claim7 := { stood := { row := prepaidReservationPaysAheadUptoRow, standIns := [], harness := (true, "c6b3ca15eeae2f32f6d0c79947d06c72ccb3dbf6dec362ad664e99e537b80e51"), looks := false }, kinds := [], alts := [], laidByText := true, laidKinds := [.data, .pinned], laidTests := true, laidLooks := .later }
def PrepaidReservationPaysAheadUptoCardSaid : Prop := Claim7.holds Tryd.pinned (.plain (OpenSpec.upto prepaidReservationPaysAheadSpec)) prepaidReservationPaysAheadUptoCard
end Rows
end Go.Proofs.YtldpacphackdjaaDoor
