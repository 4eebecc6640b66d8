/-
  NARROWER THAN 'FOR EVERY INPUT', by the rows' own cells (each row's printed sentence says how): TopPrepaid: laid · PrepaidMatchesReserve: laid · PrepaidChunksAffordAll: laid · PrepaidCallsIndependent: laid · PrepaidSettleBounded: laid · PrepaidMatchesAccounts: laid · PrepaidConservesCredit: laid · PrepaidDeposits: laid · PrepaidReservationPaysAhead: laid.
  DERIVED. THE GIVEN ROWS OF THIS SEAT. 9 by the template 'for every input the law returns true; each argument reads behind the call as it read before'; 0 by the template 'total and deterministic' (their statements: YtldpacphackdjaaDoorTotals.lean).
  GIVEN WITH THE SEED: the statements are not yours to turn. If you find one false, say at which input.
  Laid BY PROGRAM, IN A SANDBOX (cutbox-rows.mjs): the forced cells as the released guide's own fill.sh prints them over the translation 8788932370b0f5a0… (all of the seat's roots in one cut). By AI agents, Wed Nov 11 2026. No macro, syntax, notation, axiom, sorry.
-/
import Derived.Test.YtldpacphackdjaaDoorChecked
import GoSem.PinnedTables
import GoSem.Claim
import GoSem.ClaimJoined
import GoSem.ClaimMapViews
import Derived.JoinedTies
import Derived.KernelRfl
namespace Go.Proofs.YtldpacphackdjaaDoor
/- THE CELL 'sum', in the pinned program and in every row, IS THE sha256 OF THE DUMP (.gsa) THAT YtldpacphackdjaaDoorProg.lean LOADS. Nothing in Lean hashes anything: it is a label: what it is worth is what the hold of that sum in a sandbox is worth. -/
noncomputable def Tryd.pinned : Pinned := { name := "ytldpacphackdjaadoor", sum := "8788932370b0f5a0a22bf8d4e0ccddfcf9dc90b7a91f0247ab0244027fcff870", checked := Tryd.checked }
namespace Rows
def none {H : Type} : Left H := { results := [], args := [] }

/- WHAT THE LISTED PACKAGE-LEVEL VARIABLES READ AS WHEN THE CALL BEGINS. Each datum BY PROGRAM (the guide's laid-datum.mjs) off the statement by which the dump's own 'gosem.cut.vars' lays the variable. In a bare row this is a premise. The card (YtldpacphackdjaaDoorCards.lean) ties it to the program's text. -/
def laid_unicode_utf8_acceptRanges {H : Type} : DataW H := .agg [.agg [.lit (.int .u8 128), .lit (.int .u8 191)], .agg [.lit (.int .u8 160), .lit (.int .u8 191)], .agg [.lit (.int .u8 128), .lit (.int .u8 159)], .agg [.lit (.int .u8 144), .lit (.int .u8 191)], .agg [.lit (.int .u8 128), .lit (.int .u8 143)], .agg [.lit (.int .u8 0), .lit (.int .u8 0)], .agg [.lit (.int .u8 0), .lit (.int .u8 0)], .agg [.lit (.int .u8 0), .lit (.int .u8 0)], .agg [.lit (.int .u8 0), .lit (.int .u8 0)], .agg [.lit (.int .u8 0), .lit (.int .u8 0)], .agg [.lit (.int .u8 0), .lit (.int .u8 0)], .agg [.lit (.int .u8 0), .lit (.int .u8 0)], .agg [.lit (.int .u8 0), .lit (.int .u8 0)], .agg [.lit (.int .u8 0), .lit (.int .u8 0)], .agg [.lit (.int .u8 0), .lit (.int .u8 0)], .agg [.lit (.int .u8 0), .lit (.int .u8 0)]]
/-- One of Go's own tables, pinned by name: the form's constant. -/
def laid_unicode_utf8_first : DataW Unit := Go.Pinned.utf8First

/-- 'crossbartop.TopPrepaid': WHATEVER THE INPUT: true; the input reads as it did. -/
def topPrepaidSpec : ChangeSpec := { name := "topPrepaid", fn := fun _ => fun
  | [d1, d2, d3, d4] => { results := [.lit (.bool true)], args := [d1, d2, d3, d4] }
  | _ => none }
def topPrepaidRow : OpenClaim := { program := "ytldpacphackdjaadoor", sum := "8788932370b0f5a0a22bf8d4e0ccddfcf9dc90b7a91f0247ab0244027fcff870", func := "crossbar/crossbartop.TopPrepaid", spec := "topPrepaid", inPlace := ["internal/bytealg.IndexByteString", "internal/bytealg.IndexString", "slices.overlaps[crossbar/api.Hold]"], unfollowed := true, recurses := true, named := ["unicode/utf8.first", "unicode/utf8.acceptRanges", "internal/bytealg.MaxLen"], plainKeys := false, apart := false, laid := [("unicode/utf8.acceptRanges", laid_unicode_utf8_acceptRanges), ("unicode/utf8.first", laid_unicode_utf8_first)] }
def TopPrepaidSaid : Prop := topPrepaidRow.holds Tryd.pinned (OpenSpec.ofChange topPrepaidSpec)

/-- ITS FALSE NEIGHBOUR: 'it returns false'. Refute it at one input. -/
def topPrepaidWrong : ChangeSpec := { name := "topPrepaid", fn := fun _ => fun
  | [d1, d2, d3, d4] => { results := [.lit (.bool false)], args := [d1, d2, d3, d4] }
  | _ => none }
def TopPrepaidWrongFalsely : Prop := topPrepaidRow.holds Tryd.pinned (OpenSpec.ofChange topPrepaidWrong)

/-- 'crossbarlaw28.PrepaidMatchesReserve': WHATEVER THE INPUT: true; the input reads as it did. -/
def prepaidMatchesReserveSpec : ChangeSpec := { name := "prepaidMatchesReserve", fn := fun _ => fun
  | [d1, d2, d3, d4] => { results := [.lit (.bool true)], args := [d1, d2, d3, d4] }
  | _ => none }
def prepaidMatchesReserveRow : OpenClaim := { program := "ytldpacphackdjaadoor", sum := "8788932370b0f5a0a22bf8d4e0ccddfcf9dc90b7a91f0247ab0244027fcff870", func := "crossbar/crossbarlaw28.PrepaidMatchesReserve", spec := "prepaidMatchesReserve", inPlace := ["internal/bytealg.IndexByteString", "internal/bytealg.IndexString", "slices.overlaps[crossbar/api.Hold]"], unfollowed := true, recurses := true, named := ["unicode/utf8.first", "unicode/utf8.acceptRanges", "internal/bytealg.MaxLen"], plainKeys := false, apart := false, laid := [("unicode/utf8.acceptRanges", laid_unicode_utf8_acceptRanges), ("unicode/utf8.first", laid_unicode_utf8_first)] }
def PrepaidMatchesReserveSaid : Prop := prepaidMatchesReserveRow.holds Tryd.pinned (OpenSpec.ofChange prepaidMatchesReserveSpec)

/-- ITS FALSE NEIGHBOUR: 'it returns false'. Refute it at one input. -/
def prepaidMatchesReserveWrong : ChangeSpec := { name := "prepaidMatchesReserve", fn := fun _ => fun
  | [d1, d2, d3, d4] => { results := [.lit (.bool false)], args := [d1, d2, d3, d4] }
  | _ => none }
def PrepaidMatchesReserveWrongFalsely : Prop := prepaidMatchesReserveRow.holds Tryd.pinned (OpenSpec.ofChange prepaidMatchesReserveWrong)

/-- 'crossbarlaw28.PrepaidChunksAffordAll': WHATEVER THE INPUT: true; the input reads as it did. -/
def prepaidChunksAffordAllSpec : ChangeSpec := { name := "prepaidChunksAffordAll", fn := fun _ => fun
  | [d1, d2, d3, d4, d5] => { results := [.lit (.bool true)], args := [d1, d2, d3, d4, d5] }
  | _ => none }
def prepaidChunksAffordAllRow : OpenClaim := { program := "ytldpacphackdjaadoor", sum := "8788932370b0f5a0a22bf8d4e0ccddfcf9dc90b7a91f0247ab0244027fcff870", func := "crossbar/crossbarlaw28.PrepaidChunksAffordAll", spec := "prepaidChunksAffordAll", inPlace := ["internal/bytealg.IndexByteString", "internal/bytealg.IndexString", "slices.overlaps[crossbar/api.Hold]"], unfollowed := true, recurses := true, named := ["unicode/utf8.first", "unicode/utf8.acceptRanges", "internal/bytealg.MaxLen"], plainKeys := false, apart := false, laid := [("unicode/utf8.acceptRanges", laid_unicode_utf8_acceptRanges), ("unicode/utf8.first", laid_unicode_utf8_first)] }
def PrepaidChunksAffordAllSaid : Prop := prepaidChunksAffordAllRow.holds Tryd.pinned (OpenSpec.ofChange prepaidChunksAffordAllSpec)

/-- ITS FALSE NEIGHBOUR: 'it returns false'. Refute it at one input. -/
def prepaidChunksAffordAllWrong : ChangeSpec := { name := "prepaidChunksAffordAll", fn := fun _ => fun
  | [d1, d2, d3, d4, d5] => { results := [.lit (.bool false)], args := [d1, d2, d3, d4, d5] }
  | _ => none }
def PrepaidChunksAffordAllWrongFalsely : Prop := prepaidChunksAffordAllRow.holds Tryd.pinned (OpenSpec.ofChange prepaidChunksAffordAllWrong)

/-- 'crossbarlaw28.PrepaidCallsIndependent': WHATEVER THE INPUT: true; the input reads as it did. -/
def prepaidCallsIndependentSpec : ChangeSpec := { name := "prepaidCallsIndependent", fn := fun _ => fun
  | [d1, d2, d3, d4, d5] => { results := [.lit (.bool true)], args := [d1, d2, d3, d4, d5] }
  | _ => none }
def prepaidCallsIndependentRow : OpenClaim := { program := "ytldpacphackdjaadoor", sum := "8788932370b0f5a0a22bf8d4e0ccddfcf9dc90b7a91f0247ab0244027fcff870", func := "crossbar/crossbarlaw28.PrepaidCallsIndependent", spec := "prepaidCallsIndependent", inPlace := ["internal/bytealg.IndexByteString", "internal/bytealg.IndexString", "slices.overlaps[crossbar/api.Hold]"], unfollowed := true, recurses := true, named := ["unicode/utf8.first", "unicode/utf8.acceptRanges", "internal/bytealg.MaxLen"], plainKeys := false, apart := false, laid := [("unicode/utf8.acceptRanges", laid_unicode_utf8_acceptRanges), ("unicode/utf8.first", laid_unicode_utf8_first)] }
def PrepaidCallsIndependentSaid : Prop := prepaidCallsIndependentRow.holds Tryd.pinned (OpenSpec.ofChange prepaidCallsIndependentSpec)

/-- ITS FALSE NEIGHBOUR: 'it returns false'. Refute it at one input. -/
def prepaidCallsIndependentWrong : ChangeSpec := { name := "prepaidCallsIndependent", fn := fun _ => fun
  | [d1, d2, d3, d4, d5] => { results := [.lit (.bool false)], args := [d1, d2, d3, d4, d5] }
  | _ => none }
def PrepaidCallsIndependentWrongFalsely : Prop := prepaidCallsIndependentRow.holds Tryd.pinned (OpenSpec.ofChange prepaidCallsIndependentWrong)

/-- 'crossbarlaw28.PrepaidSettleBounded': WHATEVER THE INPUT: true; the input reads as it did. -/
def prepaidSettleBoundedSpec : ChangeSpec := { name := "prepaidSettleBounded", fn := fun _ => fun
  | [d1, d2, d3] => { results := [.lit (.bool true)], args := [d1, d2, d3] }
  | _ => none }
def prepaidSettleBoundedRow : OpenClaim := { program := "ytldpacphackdjaadoor", sum := "8788932370b0f5a0a22bf8d4e0ccddfcf9dc90b7a91f0247ab0244027fcff870", func := "crossbar/crossbarlaw28.PrepaidSettleBounded", spec := "prepaidSettleBounded", inPlace := ["internal/bytealg.IndexByteString", "internal/bytealg.IndexString", "slices.overlaps[crossbar/api.Hold]"], unfollowed := true, recurses := true, named := ["unicode/utf8.first", "unicode/utf8.acceptRanges", "internal/bytealg.MaxLen"], plainKeys := false, apart := false, laid := [("unicode/utf8.acceptRanges", laid_unicode_utf8_acceptRanges), ("unicode/utf8.first", laid_unicode_utf8_first)] }
def PrepaidSettleBoundedSaid : Prop := prepaidSettleBoundedRow.holds Tryd.pinned (OpenSpec.ofChange prepaidSettleBoundedSpec)

/-- ITS FALSE NEIGHBOUR: 'it returns false'. Refute it at one input. -/
def prepaidSettleBoundedWrong : ChangeSpec := { name := "prepaidSettleBounded", fn := fun _ => fun
  | [d1, d2, d3] => { results := [.lit (.bool false)], args := [d1, d2, d3] }
  | _ => none }
def PrepaidSettleBoundedWrongFalsely : Prop := prepaidSettleBoundedRow.holds Tryd.pinned (OpenSpec.ofChange prepaidSettleBoundedWrong)

/-- 'crossbarlaw28.PrepaidMatchesAccounts': WHATEVER THE INPUT: true; the input reads as it did. -/
def prepaidMatchesAccountsSpec : ChangeSpec := { name := "prepaidMatchesAccounts", fn := fun _ => fun
  | [d1, d2, d3] => { results := [.lit (.bool true)], args := [d1, d2, d3] }
  | _ => none }
def prepaidMatchesAccountsRow : OpenClaim := { program := "ytldpacphackdjaadoor", sum := "8788932370b0f5a0a22bf8d4e0ccddfcf9dc90b7a91f0247ab0244027fcff870", func := "crossbar/crossbarlaw28.PrepaidMatchesAccounts", spec := "prepaidMatchesAccounts", inPlace := ["internal/bytealg.IndexByteString", "internal/bytealg.IndexString", "slices.overlaps[crossbar/api.Hold]"], unfollowed := true, recurses := true, named := ["unicode/utf8.first", "unicode/utf8.acceptRanges", "internal/bytealg.MaxLen"], plainKeys := false, apart := false, laid := [("unicode/utf8.acceptRanges", laid_unicode_utf8_acceptRanges), ("unicode/utf8.first", laid_unicode_utf8_first)] }
def PrepaidMatchesAccountsSaid : Prop := prepaidMatchesAccountsRow.holds Tryd.pinned (OpenSpec.ofChange prepaidMatchesAccountsSpec)

/-- ITS FALSE NEIGHBOUR: 'it returns false'. Refute it at one input. -/
def prepaidMatchesAccountsWrong : ChangeSpec := { name := "prepaidMatchesAccounts", fn := fun _ => fun
  | [d1, d2, d3] => { results := [.lit (.bool false)], args := [d1, d2, d3] }
  | _ => none }
def PrepaidMatchesAccountsWrongFalsely : Prop := prepaidMatchesAccountsRow.holds Tryd.pinned (OpenSpec.ofChange prepaidMatchesAccountsWrong)

/-- 'crossbarlaw28.PrepaidConservesCredit': WHATEVER THE INPUT: true; the input reads as it did. -/
def prepaidConservesCreditSpec : ChangeSpec := { name := "prepaidConservesCredit", fn := fun _ => fun
  | [d1, d2, d3] => { results := [.lit (.bool true)], args := [d1, d2, d3] }
  | _ => none }
def prepaidConservesCreditRow : OpenClaim := { program := "ytldpacphackdjaadoor", sum := "8788932370b0f5a0a22bf8d4e0ccddfcf9dc90b7a91f0247ab0244027fcff870", func := "crossbar/crossbarlaw28.PrepaidConservesCredit", spec := "prepaidConservesCredit", inPlace := ["internal/bytealg.IndexByteString", "internal/bytealg.IndexString", "slices.overlaps[crossbar/api.Hold]"], unfollowed := true, recurses := true, named := ["unicode/utf8.first", "unicode/utf8.acceptRanges", "internal/bytealg.MaxLen"], plainKeys := false, apart := false, laid := [("unicode/utf8.acceptRanges", laid_unicode_utf8_acceptRanges), ("unicode/utf8.first", laid_unicode_utf8_first)] }
def PrepaidConservesCreditSaid : Prop := prepaidConservesCreditRow.holds Tryd.pinned (OpenSpec.ofChange prepaidConservesCreditSpec)

/-- ITS FALSE NEIGHBOUR: 'it returns false'. Refute it at one input. -/
def prepaidConservesCreditWrong : ChangeSpec := { name := "prepaidConservesCredit", fn := fun _ => fun
  | [d1, d2, d3] => { results := [.lit (.bool false)], args := [d1, d2, d3] }
  | _ => none }
def PrepaidConservesCreditWrongFalsely : Prop := prepaidConservesCreditRow.holds Tryd.pinned (OpenSpec.ofChange prepaidConservesCreditWrong)

/-- 'crossbarlaw28.PrepaidDeposits': WHATEVER THE INPUT: true; the input reads as it did. -/
def prepaidDepositsSpec : ChangeSpec := { name := "prepaidDeposits", fn := fun _ => fun
  | [d1, d2, d3, d4, d5, d6] => { results := [.lit (.bool true)], args := [d1, d2, d3, d4, d5, d6] }
  | _ => none }
def prepaidDepositsRow : OpenClaim := { program := "ytldpacphackdjaadoor", sum := "8788932370b0f5a0a22bf8d4e0ccddfcf9dc90b7a91f0247ab0244027fcff870", func := "crossbar/crossbarlaw28.PrepaidDeposits", spec := "prepaidDeposits", inPlace := ["internal/bytealg.IndexByteString", "internal/bytealg.IndexString", "slices.overlaps[crossbar/api.Hold]"], unfollowed := true, recurses := true, named := ["unicode/utf8.first", "unicode/utf8.acceptRanges", "internal/bytealg.MaxLen"], plainKeys := false, apart := false, laid := [("unicode/utf8.acceptRanges", laid_unicode_utf8_acceptRanges), ("unicode/utf8.first", laid_unicode_utf8_first)] }
def PrepaidDepositsSaid : Prop := prepaidDepositsRow.holds Tryd.pinned (OpenSpec.ofChange prepaidDepositsSpec)

/-- ITS FALSE NEIGHBOUR: 'it returns false'. Refute it at one input. -/
def prepaidDepositsWrong : ChangeSpec := { name := "prepaidDeposits", fn := fun _ => fun
  | [d1, d2, d3, d4, d5, d6] => { results := [.lit (.bool false)], args := [d1, d2, d3, d4, d5, d6] }
  | _ => none }
def PrepaidDepositsWrongFalsely : Prop := prepaidDepositsRow.holds Tryd.pinned (OpenSpec.ofChange prepaidDepositsWrong)

/-- 'crossbarlaw28.PrepaidReservationPaysAhead': WHATEVER THE INPUT: true; the input reads as it did. -/
def prepaidReservationPaysAheadSpec : ChangeSpec := { name := "prepaidReservationPaysAhead", fn := fun _ => fun
  | [d1, d2, d3, d4] => { results := [.lit (.bool true)], args := [d1, d2, d3, d4] }
  | _ => none }
def prepaidReservationPaysAheadRow : OpenClaim := { program := "ytldpacphackdjaadoor", sum := "8788932370b0f5a0a22bf8d4e0ccddfcf9dc90b7a91f0247ab0244027fcff870", func := "crossbar/crossbarlaw28.PrepaidReservationPaysAhead", spec := "prepaidReservationPaysAhead", inPlace := ["internal/bytealg.IndexByteString", "internal/bytealg.IndexString", "slices.overlaps[crossbar/api.Hold]"], unfollowed := true, recurses := true, named := ["unicode/utf8.first", "unicode/utf8.acceptRanges", "internal/bytealg.MaxLen"], plainKeys := false, apart := false, laid := [("unicode/utf8.acceptRanges", laid_unicode_utf8_acceptRanges), ("unicode/utf8.first", laid_unicode_utf8_first)] }
def PrepaidReservationPaysAheadSaid : Prop := prepaidReservationPaysAheadRow.holds Tryd.pinned (OpenSpec.ofChange prepaidReservationPaysAheadSpec)

/-- ITS FALSE NEIGHBOUR: 'it returns false'. Refute it at one input. -/
def prepaidReservationPaysAheadWrong : ChangeSpec := { name := "prepaidReservationPaysAhead", fn := fun _ => fun
  | [d1, d2, d3, d4] => { results := [.lit (.bool false)], args := [d1, d2, d3, d4] }
  | _ => none }
def PrepaidReservationPaysAheadWrongFalsely : Prop := prepaidReservationPaysAheadRow.holds Tryd.pinned (OpenSpec.ofChange prepaidReservationPaysAheadWrong)

/- THE SECOND FORM. 'bulk': how many values and letters a reading holds, each counted each time it is reached (what is shared counts as often as it is met; a slice's spare places count too). A statement '..UptoSaid' is the law's where the arguments, and the package variables that the reading takes, are together of bulk at most 1048576: NARROWER than '..Said'. Prove '..Said' where nothing that the law and all that it calls make is longer than what came in: it says more and counts as full. Else prove '..UptoSaid'. A law counts once. -/
mutual
def uptoBulk {H : Type} : DataW H → Nat
  | .lit (.string bytes) => bytes.length + 1
  | .lit _ => 1
  | .nil => 1
  | .ptr d => uptoBulk d + 1
  | .slice elems spare => uptoBulkAll elems + uptoBulkAll spare + 1
  | .agg parts => uptoBulkAll parts + 1
  | .iface _ d => uptoBulk d + 1
  | .map entries => uptoBulkEntries entries + 1
  | .held _ => 1
def uptoBulkAll {H : Type} : List (DataW H) → Nat
  | [] => 0
  | d :: r => uptoBulk d + uptoBulkAll r
def uptoBulkEntries {H : Type} : List (Lit × DataW H) → Nat
  | [] => 0
  | x :: r => uptoBulkEntry x + uptoBulkEntries r
def uptoBulkEntry {H : Type} : Lit × DataW H → Nat
  | (.string bytes, d) => bytes.length + uptoBulk d + 1
  | (_, d) => uptoBulk d + 1
 end
def uptoSmall : (H : Type) → List (DataW H) → Bool := fun _ ds => decide (uptoBulkAll ds ≤ 1048576)
def OpenSpec.upto (s : _root_.Go.ChangeSpec) : _root_.Go.OpenSpec := { _root_.Go.OpenSpec.ofChange s with cond := some uptoSmall }

/-- 'crossbartop.TopPrepaid', WHERE WHAT IT READS IS OF BULK AT MOST 1048576: true; the input reads as it did. -/
def topPrepaidUptoRow : OpenClaim := { program := "ytldpacphackdjaadoor", sum := "8788932370b0f5a0a22bf8d4e0ccddfcf9dc90b7a91f0247ab0244027fcff870", func := "crossbar/crossbartop.TopPrepaid", spec := "topPrepaid", inPlace := ["internal/bytealg.IndexByteString", "internal/bytealg.IndexString", "slices.overlaps[crossbar/api.Hold]"], unfollowed := true, recurses := true, named := ["unicode/utf8.first", "unicode/utf8.acceptRanges", "internal/bytealg.MaxLen"], plainKeys := false, apart := false, laid := [("unicode/utf8.acceptRanges", laid_unicode_utf8_acceptRanges), ("unicode/utf8.first", laid_unicode_utf8_first)], narrowed := true }
def TopPrepaidUptoSaid : Prop := topPrepaidUptoRow.holds Tryd.pinned (OpenSpec.upto topPrepaidSpec)

/-- 'crossbarlaw28.PrepaidMatchesReserve', WHERE WHAT IT READS IS OF BULK AT MOST 1048576: true; the input reads as it did. -/
def prepaidMatchesReserveUptoRow : OpenClaim := { program := "ytldpacphackdjaadoor", sum := "8788932370b0f5a0a22bf8d4e0ccddfcf9dc90b7a91f0247ab0244027fcff870", func := "crossbar/crossbarlaw28.PrepaidMatchesReserve", spec := "prepaidMatchesReserve", inPlace := ["internal/bytealg.IndexByteString", "internal/bytealg.IndexString", "slices.overlaps[crossbar/api.Hold]"], unfollowed := true, recurses := true, named := ["unicode/utf8.first", "unicode/utf8.acceptRanges", "internal/bytealg.MaxLen"], plainKeys := false, apart := false, laid := [("unicode/utf8.acceptRanges", laid_unicode_utf8_acceptRanges), ("unicode/utf8.first", laid_unicode_utf8_first)], narrowed := true }
def PrepaidMatchesReserveUptoSaid : Prop := prepaidMatchesReserveUptoRow.holds Tryd.pinned (OpenSpec.upto prepaidMatchesReserveSpec)

/-- 'crossbarlaw28.PrepaidChunksAffordAll', WHERE WHAT IT READS IS OF BULK AT MOST 1048576: true; the input reads as it did. -/
def prepaidChunksAffordAllUptoRow : OpenClaim := { program := "ytldpacphackdjaadoor", sum := "8788932370b0f5a0a22bf8d4e0ccddfcf9dc90b7a91f0247ab0244027fcff870", func := "crossbar/crossbarlaw28.PrepaidChunksAffordAll", spec := "prepaidChunksAffordAll", inPlace := ["internal/bytealg.IndexByteString", "internal/bytealg.IndexString", "slices.overlaps[crossbar/api.Hold]"], unfollowed := true, recurses := true, named := ["unicode/utf8.first", "unicode/utf8.acceptRanges", "internal/bytealg.MaxLen"], plainKeys := false, apart := false, laid := [("unicode/utf8.acceptRanges", laid_unicode_utf8_acceptRanges), ("unicode/utf8.first", laid_unicode_utf8_first)], narrowed := true }
def PrepaidChunksAffordAllUptoSaid : Prop := prepaidChunksAffordAllUptoRow.holds Tryd.pinned (OpenSpec.upto prepaidChunksAffordAllSpec)

/-- 'crossbarlaw28.PrepaidCallsIndependent', WHERE WHAT IT READS IS OF BULK AT MOST 1048576: true; the input reads as it did. -/
def prepaidCallsIndependentUptoRow : OpenClaim := { program := "ytldpacphackdjaadoor", sum := "8788932370b0f5a0a22bf8d4e0ccddfcf9dc90b7a91f0247ab0244027fcff870", func := "crossbar/crossbarlaw28.PrepaidCallsIndependent", spec := "prepaidCallsIndependent", inPlace := ["internal/bytealg.IndexByteString", "internal/bytealg.IndexString", "slices.overlaps[crossbar/api.Hold]"], unfollowed := true, recurses := true, named := ["unicode/utf8.first", "unicode/utf8.acceptRanges", "internal/bytealg.MaxLen"], plainKeys := false, apart := false, laid := [("unicode/utf8.acceptRanges", laid_unicode_utf8_acceptRanges), ("unicode/utf8.first", laid_unicode_utf8_first)], narrowed := true }
def PrepaidCallsIndependentUptoSaid : Prop := prepaidCallsIndependentUptoRow.holds Tryd.pinned (OpenSpec.upto prepaidCallsIndependentSpec)

/-- 'crossbarlaw28.PrepaidSettleBounded', WHERE WHAT IT READS IS OF BULK AT MOST 1048576: true; the input reads as it did. -/
def prepaidSettleBoundedUptoRow : OpenClaim := { program := "ytldpacphackdjaadoor", sum := "8788932370b0f5a0a22bf8d4e0ccddfcf9dc90b7a91f0247ab0244027fcff870", func := "crossbar/crossbarlaw28.PrepaidSettleBounded", spec := "prepaidSettleBounded", inPlace := ["internal/bytealg.IndexByteString", "internal/bytealg.IndexString", "slices.overlaps[crossbar/api.Hold]"], unfollowed := true, recurses := true, named := ["unicode/utf8.first", "unicode/utf8.acceptRanges", "internal/bytealg.MaxLen"], plainKeys := false, apart := false, laid := [("unicode/utf8.acceptRanges", laid_unicode_utf8_acceptRanges), ("unicode/utf8.first", laid_unicode_utf8_first)], narrowed := true }
def PrepaidSettleBoundedUptoSaid : Prop := prepaidSettleBoundedUptoRow.holds Tryd.pinned (OpenSpec.upto prepaidSettleBoundedSpec)

/-- 'crossbarlaw28.PrepaidMatchesAccounts', WHERE WHAT IT READS IS OF BULK AT MOST 1048576: true; the input reads as it did. -/
def prepaidMatchesAccountsUptoRow : OpenClaim := { program := "ytldpacphackdjaadoor", sum := "8788932370b0f5a0a22bf8d4e0ccddfcf9dc90b7a91f0247ab0244027fcff870", func := "crossbar/crossbarlaw28.PrepaidMatchesAccounts", spec := "prepaidMatchesAccounts", inPlace := ["internal/bytealg.IndexByteString", "internal/bytealg.IndexString", "slices.overlaps[crossbar/api.Hold]"], unfollowed := true, recurses := true, named := ["unicode/utf8.first", "unicode/utf8.acceptRanges", "internal/bytealg.MaxLen"], plainKeys := false, apart := false, laid := [("unicode/utf8.acceptRanges", laid_unicode_utf8_acceptRanges), ("unicode/utf8.first", laid_unicode_utf8_first)], narrowed := true }
def PrepaidMatchesAccountsUptoSaid : Prop := prepaidMatchesAccountsUptoRow.holds Tryd.pinned (OpenSpec.upto prepaidMatchesAccountsSpec)

/-- 'crossbarlaw28.PrepaidConservesCredit', WHERE WHAT IT READS IS OF BULK AT MOST 1048576: true; the input reads as it did. -/
def prepaidConservesCreditUptoRow : OpenClaim := { program := "ytldpacphackdjaadoor", sum := "8788932370b0f5a0a22bf8d4e0ccddfcf9dc90b7a91f0247ab0244027fcff870", func := "crossbar/crossbarlaw28.PrepaidConservesCredit", spec := "prepaidConservesCredit", inPlace := ["internal/bytealg.IndexByteString", "internal/bytealg.IndexString", "slices.overlaps[crossbar/api.Hold]"], unfollowed := true, recurses := true, named := ["unicode/utf8.first", "unicode/utf8.acceptRanges", "internal/bytealg.MaxLen"], plainKeys := false, apart := false, laid := [("unicode/utf8.acceptRanges", laid_unicode_utf8_acceptRanges), ("unicode/utf8.first", laid_unicode_utf8_first)], narrowed := true }
def PrepaidConservesCreditUptoSaid : Prop := prepaidConservesCreditUptoRow.holds Tryd.pinned (OpenSpec.upto prepaidConservesCreditSpec)

/-- 'crossbarlaw28.PrepaidDeposits', WHERE WHAT IT READS IS OF BULK AT MOST 1048576: true; the input reads as it did. -/
def prepaidDepositsUptoRow : OpenClaim := { program := "ytldpacphackdjaadoor", sum := "8788932370b0f5a0a22bf8d4e0ccddfcf9dc90b7a91f0247ab0244027fcff870", func := "crossbar/crossbarlaw28.PrepaidDeposits", spec := "prepaidDeposits", inPlace := ["internal/bytealg.IndexByteString", "internal/bytealg.IndexString", "slices.overlaps[crossbar/api.Hold]"], unfollowed := true, recurses := true, named := ["unicode/utf8.first", "unicode/utf8.acceptRanges", "internal/bytealg.MaxLen"], plainKeys := false, apart := false, laid := [("unicode/utf8.acceptRanges", laid_unicode_utf8_acceptRanges), ("unicode/utf8.first", laid_unicode_utf8_first)], narrowed := true }
def PrepaidDepositsUptoSaid : Prop := prepaidDepositsUptoRow.holds Tryd.pinned (OpenSpec.upto prepaidDepositsSpec)

/-- 'crossbarlaw28.PrepaidReservationPaysAhead', WHERE WHAT IT READS IS OF BULK AT MOST 1048576: true; the input reads as it did. -/
def prepaidReservationPaysAheadUptoRow : OpenClaim := { program := "ytldpacphackdjaadoor", sum := "8788932370b0f5a0a22bf8d4e0ccddfcf9dc90b7a91f0247ab0244027fcff870", func := "crossbar/crossbarlaw28.PrepaidReservationPaysAhead", spec := "prepaidReservationPaysAhead", inPlace := ["internal/bytealg.IndexByteString", "internal/bytealg.IndexString", "slices.overlaps[crossbar/api.Hold]"], unfollowed := true, recurses := true, named := ["unicode/utf8.first", "unicode/utf8.acceptRanges", "internal/bytealg.MaxLen"], plainKeys := false, apart := false, laid := [("unicode/utf8.acceptRanges", laid_unicode_utf8_acceptRanges), ("unicode/utf8.first", laid_unicode_utf8_first)], narrowed := true }
def PrepaidReservationPaysAheadUptoSaid : Prop := prepaidReservationPaysAheadUptoRow.holds Tryd.pinned (OpenSpec.upto prepaidReservationPaysAheadSpec)

end Rows
end Go.Proofs.YtldpacphackdjaaDoor
