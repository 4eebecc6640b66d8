/-
  No cell of these rows narrows 'for every input' (looked for: loops, veiled, ifaces, maps, wideKeys, modest, calm, conditions, laid).
  DERIVED. THE GIVEN ROWS OF THIS SEAT. 17 by the template 'for every input the law returns true; each argument reads behind the call as it read before'; 0 by the template 'total and deterministic' (their statements: YtldpacphackdjaaTotals.lean).
  GIVEN WITH THE SEED: the statements are not yours to turn. If you find one false, say at which input.
  Laid BY PROGRAM, IN A SANDBOX (cutbox-rows.mjs): the forced cells as the released guide's own fill.sh prints them over the translation 13c1f39d468e82f6… (all of the seat's roots in one cut). By AI agents, Wed Nov 11 2026. No macro, syntax, notation, axiom, sorry.
-/
import Derived.Test.YtldpacphackdjaaChecked
import GoSem.Claim
import GoSem.ClaimJoined
import GoSem.ClaimMapViews
import Derived.JoinedTies
import Derived.KernelRfl
namespace Go.Proofs.Ytldpacphackdjaa
/- THE CELL 'sum', in the pinned program and in every row, IS THE sha256 OF THE DUMP (.gsa) THAT YtldpacphackdjaaProg.lean LOADS. Nothing in Lean hashes anything: it is a label: what it is worth is what the hold of that sum in a sandbox is worth. -/
noncomputable def Try.pinned : Pinned := { name := "ytldpacphackdjaa", sum := "13c1f39d468e82f6449e405a412cb7b49e7ebd6b8ee2966c54bcd282b8612852", checked := Try.checked }
namespace Rows
def none {H : Type} : Left H := { results := [], args := [] }

/-- 'crossbarlaw26.TariffRateSpec': WHATEVER THE INPUT: true; the input reads as it did. -/
def tariffRateSpecSpec : ChangeSpec := { name := "tariffRateSpec", fn := fun _ => fun
  | [d1, d2] => { results := [.lit (.bool true)], args := [d1, d2] }
  | _ => none }
def tariffRateSpecRow : OpenClaim := { program := "ytldpacphackdjaa", sum := "13c1f39d468e82f6449e405a412cb7b49e7ebd6b8ee2966c54bcd282b8612852", func := "crossbar/crossbarlaw26.TariffRateSpec", spec := "tariffRateSpec", unfollowed := true, recurses := true, apart := false }
def TariffRateSpecSaid : Prop := tariffRateSpecRow.holds Try.pinned (OpenSpec.ofChange tariffRateSpecSpec)

/-- ITS FALSE NEIGHBOUR: 'it returns false'. Refute it at one input. -/
def tariffRateSpecWrong : ChangeSpec := { name := "tariffRateSpec", fn := fun _ => fun
  | [d1, d2] => { results := [.lit (.bool false)], args := [d1, d2] }
  | _ => none }
def TariffRateSpecWrongFalsely : Prop := tariffRateSpecRow.holds Try.pinned (OpenSpec.ofChange tariffRateSpecWrong)

/-- 'crossbarlaw26.TariffPriceSpec': WHATEVER THE INPUT: true; the input reads as it did. -/
def tariffPriceSpecSpec : ChangeSpec := { name := "tariffPriceSpec", fn := fun _ => fun
  | [d1, d2, d3, d4, d5] => { results := [.lit (.bool true)], args := [d1, d2, d3, d4, d5] }
  | _ => none }
def tariffPriceSpecRow : OpenClaim := { program := "ytldpacphackdjaa", sum := "13c1f39d468e82f6449e405a412cb7b49e7ebd6b8ee2966c54bcd282b8612852", func := "crossbar/crossbarlaw26.TariffPriceSpec", spec := "tariffPriceSpec", unfollowed := true, recurses := true, apart := false }
def TariffPriceSpecSaid : Prop := tariffPriceSpecRow.holds Try.pinned (OpenSpec.ofChange tariffPriceSpecSpec)

/-- ITS FALSE NEIGHBOUR: 'it returns false'. Refute it at one input. -/
def tariffPriceSpecWrong : ChangeSpec := { name := "tariffPriceSpec", fn := fun _ => fun
  | [d1, d2, d3, d4, d5] => { results := [.lit (.bool false)], args := [d1, d2, d3, d4, d5] }
  | _ => none }
def TariffPriceSpecWrongFalsely : Prop := tariffPriceSpecRow.holds Try.pinned (OpenSpec.ofChange tariffPriceSpecWrong)

/-- 'crossbarlaw26.TariffPriceAdditive': WHATEVER THE INPUT: true; the input reads as it did. -/
def tariffPriceAdditiveSpec : ChangeSpec := { name := "tariffPriceAdditive", fn := fun _ => fun
  | [d1, d2, d3, d4] => { results := [.lit (.bool true)], args := [d1, d2, d3, d4] }
  | _ => none }
def tariffPriceAdditiveRow : OpenClaim := { program := "ytldpacphackdjaa", sum := "13c1f39d468e82f6449e405a412cb7b49e7ebd6b8ee2966c54bcd282b8612852", func := "crossbar/crossbarlaw26.TariffPriceAdditive", spec := "tariffPriceAdditive", unfollowed := true, recurses := true, apart := false }
def TariffPriceAdditiveSaid : Prop := tariffPriceAdditiveRow.holds Try.pinned (OpenSpec.ofChange tariffPriceAdditiveSpec)

/-- ITS FALSE NEIGHBOUR: 'it returns false'. Refute it at one input. -/
def tariffPriceAdditiveWrong : ChangeSpec := { name := "tariffPriceAdditive", fn := fun _ => fun
  | [d1, d2, d3, d4] => { results := [.lit (.bool false)], args := [d1, d2, d3, d4] }
  | _ => none }
def TariffPriceAdditiveWrongFalsely : Prop := tariffPriceAdditiveRow.holds Try.pinned (OpenSpec.ofChange tariffPriceAdditiveWrong)

/-- 'crossbarlaw26.TariffPeriodic': WHATEVER THE INPUT: true; the input reads as it did. -/
def tariffPeriodicSpec : ChangeSpec := { name := "tariffPeriodic", fn := fun _ => fun
  | [d1, d2, d3, d4] => { results := [.lit (.bool true)], args := [d1, d2, d3, d4] }
  | _ => none }
def tariffPeriodicRow : OpenClaim := { program := "ytldpacphackdjaa", sum := "13c1f39d468e82f6449e405a412cb7b49e7ebd6b8ee2966c54bcd282b8612852", func := "crossbar/crossbarlaw26.TariffPeriodic", spec := "tariffPeriodic", unfollowed := true, recurses := true, apart := false }
def TariffPeriodicSaid : Prop := tariffPeriodicRow.holds Try.pinned (OpenSpec.ofChange tariffPeriodicSpec)

/-- ITS FALSE NEIGHBOUR: 'it returns false'. Refute it at one input. -/
def tariffPeriodicWrong : ChangeSpec := { name := "tariffPeriodic", fn := fun _ => fun
  | [d1, d2, d3, d4] => { results := [.lit (.bool false)], args := [d1, d2, d3, d4] }
  | _ => none }
def TariffPeriodicWrongFalsely : Prop := tariffPeriodicRow.holds Try.pinned (OpenSpec.ofChange tariffPeriodicWrong)

/-- 'crossbarlaw26.TariffConstantUntilChange': WHATEVER THE INPUT: true; the input reads as it did. -/
def tariffConstantUntilChangeSpec : ChangeSpec := { name := "tariffConstantUntilChange", fn := fun _ => fun
  | [d1, d2, d3] => { results := [.lit (.bool true)], args := [d1, d2, d3] }
  | _ => none }
def tariffConstantUntilChangeRow : OpenClaim := { program := "ytldpacphackdjaa", sum := "13c1f39d468e82f6449e405a412cb7b49e7ebd6b8ee2966c54bcd282b8612852", func := "crossbar/crossbarlaw26.TariffConstantUntilChange", spec := "tariffConstantUntilChange", unfollowed := true, recurses := true, apart := false }
def TariffConstantUntilChangeSaid : Prop := tariffConstantUntilChangeRow.holds Try.pinned (OpenSpec.ofChange tariffConstantUntilChangeSpec)

/-- ITS FALSE NEIGHBOUR: 'it returns false'. Refute it at one input. -/
def tariffConstantUntilChangeWrong : ChangeSpec := { name := "tariffConstantUntilChange", fn := fun _ => fun
  | [d1, d2, d3] => { results := [.lit (.bool false)], args := [d1, d2, d3] }
  | _ => none }
def TariffConstantUntilChangeWrongFalsely : Prop := tariffConstantUntilChangeRow.holds Try.pinned (OpenSpec.ofChange tariffConstantUntilChangeWrong)

/-- 'crossbarlaw26.TariffAffordMaximal': WHATEVER THE INPUT: true; the input reads as it did. -/
def tariffAffordMaximalSpec : ChangeSpec := { name := "tariffAffordMaximal", fn := fun _ => fun
  | [d1, d2, d3, d4] => { results := [.lit (.bool true)], args := [d1, d2, d3, d4] }
  | _ => none }
def tariffAffordMaximalRow : OpenClaim := { program := "ytldpacphackdjaa", sum := "13c1f39d468e82f6449e405a412cb7b49e7ebd6b8ee2966c54bcd282b8612852", func := "crossbar/crossbarlaw26.TariffAffordMaximal", spec := "tariffAffordMaximal", unfollowed := true, recurses := true, apart := false }
def TariffAffordMaximalSaid : Prop := tariffAffordMaximalRow.holds Try.pinned (OpenSpec.ofChange tariffAffordMaximalSpec)

/-- ITS FALSE NEIGHBOUR: 'it returns false'. Refute it at one input. -/
def tariffAffordMaximalWrong : ChangeSpec := { name := "tariffAffordMaximal", fn := fun _ => fun
  | [d1, d2, d3, d4] => { results := [.lit (.bool false)], args := [d1, d2, d3, d4] }
  | _ => none }
def TariffAffordMaximalWrongFalsely : Prop := tariffAffordMaximalRow.holds Try.pinned (OpenSpec.ofChange tariffAffordMaximalWrong)

/-- 'crossbarlaw26.TariffAffordInStages': WHATEVER THE INPUT: true; the input reads as it did. -/
def tariffAffordInStagesSpec : ChangeSpec := { name := "tariffAffordInStages", fn := fun _ => fun
  | [d1, d2, d3, d4, d5] => { results := [.lit (.bool true)], args := [d1, d2, d3, d4, d5] }
  | _ => none }
def tariffAffordInStagesRow : OpenClaim := { program := "ytldpacphackdjaa", sum := "13c1f39d468e82f6449e405a412cb7b49e7ebd6b8ee2966c54bcd282b8612852", func := "crossbar/crossbarlaw26.TariffAffordInStages", spec := "tariffAffordInStages", unfollowed := true, recurses := true, apart := false }
def TariffAffordInStagesSaid : Prop := tariffAffordInStagesRow.holds Try.pinned (OpenSpec.ofChange tariffAffordInStagesSpec)

/-- ITS FALSE NEIGHBOUR: 'it returns false'. Refute it at one input. -/
def tariffAffordInStagesWrong : ChangeSpec := { name := "tariffAffordInStages", fn := fun _ => fun
  | [d1, d2, d3, d4, d5] => { results := [.lit (.bool false)], args := [d1, d2, d3, d4, d5] }
  | _ => none }
def TariffAffordInStagesWrongFalsely : Prop := tariffAffordInStagesRow.holds Try.pinned (OpenSpec.ofChange tariffAffordInStagesWrong)

/-- 'crossbarlaw26.TariffRedundantBand': WHATEVER THE INPUT: true; the input reads as it did. -/
def tariffRedundantBandSpec : ChangeSpec := { name := "tariffRedundantBand", fn := fun _ => fun
  | [d1, d2, d3, d4, d5] => { results := [.lit (.bool true)], args := [d1, d2, d3, d4, d5] }
  | _ => none }
def tariffRedundantBandRow : OpenClaim := { program := "ytldpacphackdjaa", sum := "13c1f39d468e82f6449e405a412cb7b49e7ebd6b8ee2966c54bcd282b8612852", func := "crossbar/crossbarlaw26.TariffRedundantBand", spec := "tariffRedundantBand", unfollowed := true, recurses := true, apart := false }
def TariffRedundantBandSaid : Prop := tariffRedundantBandRow.holds Try.pinned (OpenSpec.ofChange tariffRedundantBandSpec)

/-- ITS FALSE NEIGHBOUR: 'it returns false'. Refute it at one input. -/
def tariffRedundantBandWrong : ChangeSpec := { name := "tariffRedundantBand", fn := fun _ => fun
  | [d1, d2, d3, d4, d5] => { results := [.lit (.bool false)], args := [d1, d2, d3, d4, d5] }
  | _ => none }
def TariffRedundantBandWrongFalsely : Prop := tariffRedundantBandRow.holds Try.pinned (OpenSpec.ofChange tariffRedundantBandWrong)

/-- 'crossbarlaw10.TimersMatchesUpdates': WHATEVER THE INPUT: true; the input reads as it did. -/
def timersMatchesUpdatesSpec : ChangeSpec := { name := "timersMatchesUpdates", fn := fun _ => fun
  | [d1, d2, d3] => { results := [.lit (.bool true)], args := [d1, d2, d3] }
  | _ => none }
def timersMatchesUpdatesRow : OpenClaim := { program := "ytldpacphackdjaa", sum := "13c1f39d468e82f6449e405a412cb7b49e7ebd6b8ee2966c54bcd282b8612852", func := "crossbar/crossbarlaw10.TimersMatchesUpdates", spec := "timersMatchesUpdates", inPlace := ["slices.overlaps[crossbar/api.Timer]"], unfollowed := true, recurses := true, apart := false }
def TimersMatchesUpdatesSaid : Prop := timersMatchesUpdatesRow.holds Try.pinned (OpenSpec.ofChange timersMatchesUpdatesSpec)

/-- ITS FALSE NEIGHBOUR: 'it returns false'. Refute it at one input. -/
def timersMatchesUpdatesWrong : ChangeSpec := { name := "timersMatchesUpdates", fn := fun _ => fun
  | [d1, d2, d3] => { results := [.lit (.bool false)], args := [d1, d2, d3] }
  | _ => none }
def TimersMatchesUpdatesWrongFalsely : Prop := timersMatchesUpdatesRow.holds Try.pinned (OpenSpec.ofChange timersMatchesUpdatesWrong)

/-- 'crossbarlaw10.TimersMatchesExpiry': WHATEVER THE INPUT: true; the input reads as it did. -/
def timersMatchesExpirySpec : ChangeSpec := { name := "timersMatchesExpiry", fn := fun _ => fun
  | [d1, d2] => { results := [.lit (.bool true)], args := [d1, d2] }
  | _ => none }
def timersMatchesExpiryRow : OpenClaim := { program := "ytldpacphackdjaa", sum := "13c1f39d468e82f6449e405a412cb7b49e7ebd6b8ee2966c54bcd282b8612852", func := "crossbar/crossbarlaw10.TimersMatchesExpiry", spec := "timersMatchesExpiry", inPlace := ["slices.overlaps[crossbar/api.Timer]"], unfollowed := true, recurses := true, apart := false }
def TimersMatchesExpirySaid : Prop := timersMatchesExpiryRow.holds Try.pinned (OpenSpec.ofChange timersMatchesExpirySpec)

/-- ITS FALSE NEIGHBOUR: 'it returns false'. Refute it at one input. -/
def timersMatchesExpiryWrong : ChangeSpec := { name := "timersMatchesExpiry", fn := fun _ => fun
  | [d1, d2] => { results := [.lit (.bool false)], args := [d1, d2] }
  | _ => none }
def TimersMatchesExpiryWrongFalsely : Prop := timersMatchesExpiryRow.holds Try.pinned (OpenSpec.ofChange timersMatchesExpiryWrong)

/-- 'crossbarlaw10.TimersExpireInOrder': WHATEVER THE INPUT: true; the input reads as it did. -/
def timersExpireInOrderSpec : ChangeSpec := { name := "timersExpireInOrder", fn := fun _ => fun
  | [d1, d2] => { results := [.lit (.bool true)], args := [d1, d2] }
  | _ => none }
def timersExpireInOrderRow : OpenClaim := { program := "ytldpacphackdjaa", sum := "13c1f39d468e82f6449e405a412cb7b49e7ebd6b8ee2966c54bcd282b8612852", func := "crossbar/crossbarlaw10.TimersExpireInOrder", spec := "timersExpireInOrder", inPlace := ["slices.overlaps[crossbar/api.Timer]"], unfollowed := true, recurses := true, apart := false }
def TimersExpireInOrderSaid : Prop := timersExpireInOrderRow.holds Try.pinned (OpenSpec.ofChange timersExpireInOrderSpec)

/-- ITS FALSE NEIGHBOUR: 'it returns false'. Refute it at one input. -/
def timersExpireInOrderWrong : ChangeSpec := { name := "timersExpireInOrder", fn := fun _ => fun
  | [d1, d2] => { results := [.lit (.bool false)], args := [d1, d2] }
  | _ => none }
def TimersExpireInOrderWrongFalsely : Prop := timersExpireInOrderRow.holds Try.pinned (OpenSpec.ofChange timersExpireInOrderWrong)

/-- 'crossbarlaw10.TimersNextIsMinimum': WHATEVER THE INPUT: true; the input reads as it did. -/
def timersNextIsMinimumSpec : ChangeSpec := { name := "timersNextIsMinimum", fn := fun _ => fun
  | [d] => { results := [.lit (.bool true)], args := [d] }
  | _ => none }
def timersNextIsMinimumRow : OpenClaim := { program := "ytldpacphackdjaa", sum := "13c1f39d468e82f6449e405a412cb7b49e7ebd6b8ee2966c54bcd282b8612852", func := "crossbar/crossbarlaw10.TimersNextIsMinimum", spec := "timersNextIsMinimum", inPlace := ["slices.overlaps[crossbar/api.Timer]"], unfollowed := true, recurses := true, apart := false }
def TimersNextIsMinimumSaid : Prop := timersNextIsMinimumRow.holds Try.pinned (OpenSpec.ofChange timersNextIsMinimumSpec)

/-- ITS FALSE NEIGHBOUR: 'it returns false'. Refute it at one input. -/
def timersNextIsMinimumWrong : ChangeSpec := { name := "timersNextIsMinimum", fn := fun _ => fun
  | [d] => { results := [.lit (.bool false)], args := [d] }
  | _ => none }
def TimersNextIsMinimumWrongFalsely : Prop := timersNextIsMinimumRow.holds Try.pinned (OpenSpec.ofChange timersNextIsMinimumWrong)

/-- 'crossbarlaw10.TimersExpireSplits': WHATEVER THE INPUT: true; the input reads as it did. -/
def timersExpireSplitsSpec : ChangeSpec := { name := "timersExpireSplits", fn := fun _ => fun
  | [d1, d2, d3] => { results := [.lit (.bool true)], args := [d1, d2, d3] }
  | _ => none }
def timersExpireSplitsRow : OpenClaim := { program := "ytldpacphackdjaa", sum := "13c1f39d468e82f6449e405a412cb7b49e7ebd6b8ee2966c54bcd282b8612852", func := "crossbar/crossbarlaw10.TimersExpireSplits", spec := "timersExpireSplits", inPlace := ["slices.overlaps[crossbar/api.Timer]"], unfollowed := true, recurses := true, apart := false }
def TimersExpireSplitsSaid : Prop := timersExpireSplitsRow.holds Try.pinned (OpenSpec.ofChange timersExpireSplitsSpec)

/-- ITS FALSE NEIGHBOUR: 'it returns false'. Refute it at one input. -/
def timersExpireSplitsWrong : ChangeSpec := { name := "timersExpireSplits", fn := fun _ => fun
  | [d1, d2, d3] => { results := [.lit (.bool false)], args := [d1, d2, d3] }
  | _ => none }
def TimersExpireSplitsWrongFalsely : Prop := timersExpireSplitsRow.holds Try.pinned (OpenSpec.ofChange timersExpireSplitsWrong)

/-- 'crossbarlaw10.TimersSetCommutes': WHATEVER THE INPUT: true; the input reads as it did. -/
def timersSetCommutesSpec : ChangeSpec := { name := "timersSetCommutes", fn := fun _ => fun
  | [d1, d2, d3, d4, d5] => { results := [.lit (.bool true)], args := [d1, d2, d3, d4, d5] }
  | _ => none }
def timersSetCommutesRow : OpenClaim := { program := "ytldpacphackdjaa", sum := "13c1f39d468e82f6449e405a412cb7b49e7ebd6b8ee2966c54bcd282b8612852", func := "crossbar/crossbarlaw10.TimersSetCommutes", spec := "timersSetCommutes", inPlace := ["slices.overlaps[crossbar/api.Timer]"], unfollowed := true, recurses := true, apart := false }
def TimersSetCommutesSaid : Prop := timersSetCommutesRow.holds Try.pinned (OpenSpec.ofChange timersSetCommutesSpec)

/-- ITS FALSE NEIGHBOUR: 'it returns false'. Refute it at one input. -/
def timersSetCommutesWrong : ChangeSpec := { name := "timersSetCommutes", fn := fun _ => fun
  | [d1, d2, d3, d4, d5] => { results := [.lit (.bool false)], args := [d1, d2, d3, d4, d5] }
  | _ => none }
def TimersSetCommutesWrongFalsely : Prop := timersSetCommutesRow.holds Try.pinned (OpenSpec.ofChange timersSetCommutesWrong)

/-- 'crossbarlaw10.TimersSetReplaces': WHATEVER THE INPUT: true; the input reads as it did. -/
def timersSetReplacesSpec : ChangeSpec := { name := "timersSetReplaces", fn := fun _ => fun
  | [d1, d2, d3, d4] => { results := [.lit (.bool true)], args := [d1, d2, d3, d4] }
  | _ => none }
def timersSetReplacesRow : OpenClaim := { program := "ytldpacphackdjaa", sum := "13c1f39d468e82f6449e405a412cb7b49e7ebd6b8ee2966c54bcd282b8612852", func := "crossbar/crossbarlaw10.TimersSetReplaces", spec := "timersSetReplaces", inPlace := ["slices.overlaps[crossbar/api.Timer]"], unfollowed := true, recurses := true, apart := false }
def TimersSetReplacesSaid : Prop := timersSetReplacesRow.holds Try.pinned (OpenSpec.ofChange timersSetReplacesSpec)

/-- ITS FALSE NEIGHBOUR: 'it returns false'. Refute it at one input. -/
def timersSetReplacesWrong : ChangeSpec := { name := "timersSetReplaces", fn := fun _ => fun
  | [d1, d2, d3, d4] => { results := [.lit (.bool false)], args := [d1, d2, d3, d4] }
  | _ => none }
def TimersSetReplacesWrongFalsely : Prop := timersSetReplacesRow.holds Try.pinned (OpenSpec.ofChange timersSetReplacesWrong)

/-- 'crossbarlaw10.TimersStayValid': WHATEVER THE INPUT: true; the input reads as it did. -/
def timersStayValidSpec : ChangeSpec := { name := "timersStayValid", fn := fun _ => fun
  | [d1, d2, d3] => { results := [.lit (.bool true)], args := [d1, d2, d3] }
  | _ => none }
def timersStayValidRow : OpenClaim := { program := "ytldpacphackdjaa", sum := "13c1f39d468e82f6449e405a412cb7b49e7ebd6b8ee2966c54bcd282b8612852", func := "crossbar/crossbarlaw10.TimersStayValid", spec := "timersStayValid", inPlace := ["slices.overlaps[crossbar/api.Timer]"], unfollowed := true, recurses := true, apart := false }
def TimersStayValidSaid : Prop := timersStayValidRow.holds Try.pinned (OpenSpec.ofChange timersStayValidSpec)

/-- ITS FALSE NEIGHBOUR: 'it returns false'. Refute it at one input. -/
def timersStayValidWrong : ChangeSpec := { name := "timersStayValid", fn := fun _ => fun
  | [d1, d2, d3] => { results := [.lit (.bool false)], args := [d1, d2, d3] }
  | _ => none }
def TimersStayValidWrongFalsely : Prop := timersStayValidRow.holds Try.pinned (OpenSpec.ofChange timersStayValidWrong)

/-- 'crossbarlaw26.TariffCutsByTimers': WHATEVER THE INPUT: true; the input reads as it did. -/
def tariffCutsByTimersSpec : ChangeSpec := { name := "tariffCutsByTimers", fn := fun _ => fun
  | [d1, d2, d3] => { results := [.lit (.bool true)], args := [d1, d2, d3] }
  | _ => none }
def tariffCutsByTimersRow : OpenClaim := { program := "ytldpacphackdjaa", sum := "13c1f39d468e82f6449e405a412cb7b49e7ebd6b8ee2966c54bcd282b8612852", func := "crossbar/crossbarlaw26.TariffCutsByTimers", spec := "tariffCutsByTimers", inPlace := ["slices.overlaps[crossbar/api.Timer]"], unfollowed := true, recurses := true, apart := false }
def TariffCutsByTimersSaid : Prop := tariffCutsByTimersRow.holds Try.pinned (OpenSpec.ofChange tariffCutsByTimersSpec)

/-- ITS FALSE NEIGHBOUR: 'it returns false'. Refute it at one input. -/
def tariffCutsByTimersWrong : ChangeSpec := { name := "tariffCutsByTimers", fn := fun _ => fun
  | [d1, d2, d3] => { results := [.lit (.bool false)], args := [d1, d2, d3] }
  | _ => none }
def TariffCutsByTimersWrongFalsely : Prop := tariffCutsByTimersRow.holds Try.pinned (OpenSpec.ofChange tariffCutsByTimersWrong)

/- THE SECOND FORM. 'bulk': how many values and letters a reading holds, each counted each time it is reached (what is shared counts as often as it is met; a slice's spare places count too). A statement '..UptoSaid' is the law's where the arguments, and the package variables that the reading takes, are together of bulk at most 1048576: NARROWER than '..Said'. Prove '..Said' where nothing that the law and all that it calls make is longer than what came in: it says more and counts as full. Else prove '..UptoSaid'. A law counts once. -/
mutual
def uptoBulk {H : Type} : DataW H → Nat
  | .lit (.string bytes) => bytes.length + 1
  | .lit _ => 1
  | .nil => 1
  | .ptr d => uptoBulk d + 1
  | .slice elems spare => uptoBulkAll elems + uptoBulkAll spare + 1
  | .agg parts => uptoBulkAll parts + 1
  | .iface _ d => uptoBulk d + 1
  | .map entries => uptoBulkEntries entries + 1
  | .held _ => 1
def uptoBulkAll {H : Type} : List (DataW H) → Nat
  | [] => 0
  | d :: r => uptoBulk d + uptoBulkAll r
def uptoBulkEntries {H : Type} : List (Lit × DataW H) → Nat
  | [] => 0
  | x :: r => uptoBulkEntry x + uptoBulkEntries r
def uptoBulkEntry {H : Type} : Lit × DataW H → Nat
  | (.string bytes, d) => bytes.length + uptoBulk d + 1
  | (_, d) => uptoBulk d + 1
 end
def uptoSmall : (H : Type) → List (DataW H) → Bool := fun _ ds => decide (uptoBulkAll ds ≤ 1048576)
def OpenSpec.upto (s : _root_.Go.ChangeSpec) : _root_.Go.OpenSpec := { _root_.Go.OpenSpec.ofChange s with cond := some uptoSmall }

/-- 'crossbarlaw26.TariffRateSpec', WHERE WHAT IT READS IS OF BULK AT MOST 1048576: true; the input reads as it did. -/
def tariffRateSpecUptoRow : OpenClaim := { program := "ytldpacphackdjaa", sum := "13c1f39d468e82f6449e405a412cb7b49e7ebd6b8ee2966c54bcd282b8612852", func := "crossbar/crossbarlaw26.TariffRateSpec", spec := "tariffRateSpec", unfollowed := true, recurses := true, apart := false, narrowed := true }
def TariffRateSpecUptoSaid : Prop := tariffRateSpecUptoRow.holds Try.pinned (OpenSpec.upto tariffRateSpecSpec)

/-- 'crossbarlaw26.TariffPriceSpec', WHERE WHAT IT READS IS OF BULK AT MOST 1048576: true; the input reads as it did. -/
def tariffPriceSpecUptoRow : OpenClaim := { program := "ytldpacphackdjaa", sum := "13c1f39d468e82f6449e405a412cb7b49e7ebd6b8ee2966c54bcd282b8612852", func := "crossbar/crossbarlaw26.TariffPriceSpec", spec := "tariffPriceSpec", unfollowed := true, recurses := true, apart := false, narrowed := true }
def TariffPriceSpecUptoSaid : Prop := tariffPriceSpecUptoRow.holds Try.pinned (OpenSpec.upto tariffPriceSpecSpec)

/-- 'crossbarlaw26.TariffPriceAdditive', WHERE WHAT IT READS IS OF BULK AT MOST 1048576: true; the input reads as it did. -/
def tariffPriceAdditiveUptoRow : OpenClaim := { program := "ytldpacphackdjaa", sum := "13c1f39d468e82f6449e405a412cb7b49e7ebd6b8ee2966c54bcd282b8612852", func := "crossbar/crossbarlaw26.TariffPriceAdditive", spec := "tariffPriceAdditive", unfollowed := true, recurses := true, apart := false, narrowed := true }
def TariffPriceAdditiveUptoSaid : Prop := tariffPriceAdditiveUptoRow.holds Try.pinned (OpenSpec.upto tariffPriceAdditiveSpec)

/-- 'crossbarlaw26.TariffPeriodic', WHERE WHAT IT READS IS OF BULK AT MOST 1048576: true; the input reads as it did. -/
def tariffPeriodicUptoRow : OpenClaim := { program := "ytldpacphackdjaa", sum := "13c1f39d468e82f6449e405a412cb7b49e7ebd6b8ee2966c54bcd282b8612852", func := "crossbar/crossbarlaw26.TariffPeriodic", spec := "tariffPeriodic", unfollowed := true, recurses := true, apart := false, narrowed := true }
def TariffPeriodicUptoSaid : Prop := tariffPeriodicUptoRow.holds Try.pinned (OpenSpec.upto tariffPeriodicSpec)

/-- 'crossbarlaw26.TariffConstantUntilChange', WHERE WHAT IT READS IS OF BULK AT MOST 1048576: true; the input reads as it did. -/
def tariffConstantUntilChangeUptoRow : OpenClaim := { program := "ytldpacphackdjaa", sum := "13c1f39d468e82f6449e405a412cb7b49e7ebd6b8ee2966c54bcd282b8612852", func := "crossbar/crossbarlaw26.TariffConstantUntilChange", spec := "tariffConstantUntilChange", unfollowed := true, recurses := true, apart := false, narrowed := true }
def TariffConstantUntilChangeUptoSaid : Prop := tariffConstantUntilChangeUptoRow.holds Try.pinned (OpenSpec.upto tariffConstantUntilChangeSpec)

/-- 'crossbarlaw26.TariffAffordMaximal', WHERE WHAT IT READS IS OF BULK AT MOST 1048576: true; the input reads as it did. -/
def tariffAffordMaximalUptoRow : OpenClaim := { program := "ytldpacphackdjaa", sum := "13c1f39d468e82f6449e405a412cb7b49e7ebd6b8ee2966c54bcd282b8612852", func := "crossbar/crossbarlaw26.TariffAffordMaximal", spec := "tariffAffordMaximal", unfollowed := true, recurses := true, apart := false, narrowed := true }
def TariffAffordMaximalUptoSaid : Prop := tariffAffordMaximalUptoRow.holds Try.pinned (OpenSpec.upto tariffAffordMaximalSpec)

/-- 'crossbarlaw26.TariffAffordInStages', WHERE WHAT IT READS IS OF BULK AT MOST 1048576: true; the input reads as it did. -/
def tariffAffordInStagesUptoRow : OpenClaim := { program := "ytldpacphackdjaa", sum := "13c1f39d468e82f6449e405a412cb7b49e7ebd6b8ee2966c54bcd282b8612852", func := "crossbar/crossbarlaw26.TariffAffordInStages", spec := "tariffAffordInStages", unfollowed := true, recurses := true, apart := false, narrowed := true }
def TariffAffordInStagesUptoSaid : Prop := tariffAffordInStagesUptoRow.holds Try.pinned (OpenSpec.upto tariffAffordInStagesSpec)

/-- 'crossbarlaw26.TariffRedundantBand', WHERE WHAT IT READS IS OF BULK AT MOST 1048576: true; the input reads as it did. -/
def tariffRedundantBandUptoRow : OpenClaim := { program := "ytldpacphackdjaa", sum := "13c1f39d468e82f6449e405a412cb7b49e7ebd6b8ee2966c54bcd282b8612852", func := "crossbar/crossbarlaw26.TariffRedundantBand", spec := "tariffRedundantBand", unfollowed := true, recurses := true, apart := false, narrowed := true }
def TariffRedundantBandUptoSaid : Prop := tariffRedundantBandUptoRow.holds Try.pinned (OpenSpec.upto tariffRedundantBandSpec)

/-- 'crossbarlaw10.TimersMatchesUpdates', WHERE WHAT IT READS IS OF BULK AT MOST 1048576: true; the input reads as it did. -/
def timersMatchesUpdatesUptoRow : OpenClaim := { program := "ytldpacphackdjaa", sum := "13c1f39d468e82f6449e405a412cb7b49e7ebd6b8ee2966c54bcd282b8612852", func := "crossbar/crossbarlaw10.TimersMatchesUpdates", spec := "timersMatchesUpdates", inPlace := ["slices.overlaps[crossbar/api.Timer]"], unfollowed := true, recurses := true, apart := false, narrowed := true }
def TimersMatchesUpdatesUptoSaid : Prop := timersMatchesUpdatesUptoRow.holds Try.pinned (OpenSpec.upto timersMatchesUpdatesSpec)

/-- 'crossbarlaw10.TimersMatchesExpiry', WHERE WHAT IT READS IS OF BULK AT MOST 1048576: true; the input reads as it did. -/
def timersMatchesExpiryUptoRow : OpenClaim := { program := "ytldpacphackdjaa", sum := "13c1f39d468e82f6449e405a412cb7b49e7ebd6b8ee2966c54bcd282b8612852", func := "crossbar/crossbarlaw10.TimersMatchesExpiry", spec := "timersMatchesExpiry", inPlace := ["slices.overlaps[crossbar/api.Timer]"], unfollowed := true, recurses := true, apart := false, narrowed := true }
def TimersMatchesExpiryUptoSaid : Prop := timersMatchesExpiryUptoRow.holds Try.pinned (OpenSpec.upto timersMatchesExpirySpec)

/-- 'crossbarlaw10.TimersExpireInOrder', WHERE WHAT IT READS IS OF BULK AT MOST 1048576: true; the input reads as it did. -/
def timersExpireInOrderUptoRow : OpenClaim := { program := "ytldpacphackdjaa", sum := "13c1f39d468e82f6449e405a412cb7b49e7ebd6b8ee2966c54bcd282b8612852", func := "crossbar/crossbarlaw10.TimersExpireInOrder", spec := "timersExpireInOrder", inPlace := ["slices.overlaps[crossbar/api.Timer]"], unfollowed := true, recurses := true, apart := false, narrowed := true }
def TimersExpireInOrderUptoSaid : Prop := timersExpireInOrderUptoRow.holds Try.pinned (OpenSpec.upto timersExpireInOrderSpec)

/-- 'crossbarlaw10.TimersNextIsMinimum', WHERE WHAT IT READS IS OF BULK AT MOST 1048576: true; the input reads as it did. -/
def timersNextIsMinimumUptoRow : OpenClaim := { program := "ytldpacphackdjaa", sum := "13c1f39d468e82f6449e405a412cb7b49e7ebd6b8ee2966c54bcd282b8612852", func := "crossbar/crossbarlaw10.TimersNextIsMinimum", spec := "timersNextIsMinimum", inPlace := ["slices.overlaps[crossbar/api.Timer]"], unfollowed := true, recurses := true, apart := false, narrowed := true }
def TimersNextIsMinimumUptoSaid : Prop := timersNextIsMinimumUptoRow.holds Try.pinned (OpenSpec.upto timersNextIsMinimumSpec)

/-- 'crossbarlaw10.TimersExpireSplits', WHERE WHAT IT READS IS OF BULK AT MOST 1048576: true; the input reads as it did. -/
def timersExpireSplitsUptoRow : OpenClaim := { program := "ytldpacphackdjaa", sum := "13c1f39d468e82f6449e405a412cb7b49e7ebd6b8ee2966c54bcd282b8612852", func := "crossbar/crossbarlaw10.TimersExpireSplits", spec := "timersExpireSplits", inPlace := ["slices.overlaps[crossbar/api.Timer]"], unfollowed := true, recurses := true, apart := false, narrowed := true }
def TimersExpireSplitsUptoSaid : Prop := timersExpireSplitsUptoRow.holds Try.pinned (OpenSpec.upto timersExpireSplitsSpec)

/-- 'crossbarlaw10.TimersSetCommutes', WHERE WHAT IT READS IS OF BULK AT MOST 1048576: true; the input reads as it did. -/
def timersSetCommutesUptoRow : OpenClaim := { program := "ytldpacphackdjaa", sum := "13c1f39d468e82f6449e405a412cb7b49e7ebd6b8ee2966c54bcd282b8612852", func := "crossbar/crossbarlaw10.TimersSetCommutes", spec := "timersSetCommutes", inPlace := ["slices.overlaps[crossbar/api.Timer]"], unfollowed := true, recurses := true, apart := false, narrowed := true }
def TimersSetCommutesUptoSaid : Prop := timersSetCommutesUptoRow.holds Try.pinned (OpenSpec.upto timersSetCommutesSpec)

/-- 'crossbarlaw10.TimersSetReplaces', WHERE WHAT IT READS IS OF BULK AT MOST 1048576: true; the input reads as it did. -/
def timersSetReplacesUptoRow : OpenClaim := { program := "ytldpacphackdjaa", sum := "13c1f39d468e82f6449e405a412cb7b49e7ebd6b8ee2966c54bcd282b8612852", func := "crossbar/crossbarlaw10.TimersSetReplaces", spec := "timersSetReplaces", inPlace := ["slices.overlaps[crossbar/api.Timer]"], unfollowed := true, recurses := true, apart := false, narrowed := true }
def TimersSetReplacesUptoSaid : Prop := timersSetReplacesUptoRow.holds Try.pinned (OpenSpec.upto timersSetReplacesSpec)

/-- 'crossbarlaw10.TimersStayValid', WHERE WHAT IT READS IS OF BULK AT MOST 1048576: true; the input reads as it did. -/
def timersStayValidUptoRow : OpenClaim := { program := "ytldpacphackdjaa", sum := "13c1f39d468e82f6449e405a412cb7b49e7ebd6b8ee2966c54bcd282b8612852", func := "crossbar/crossbarlaw10.TimersStayValid", spec := "timersStayValid", inPlace := ["slices.overlaps[crossbar/api.Timer]"], unfollowed := true, recurses := true, apart := false, narrowed := true }
def TimersStayValidUptoSaid : Prop := timersStayValidUptoRow.holds Try.pinned (OpenSpec.upto timersStayValidSpec)

/-- 'crossbarlaw26.TariffCutsByTimers', WHERE WHAT IT READS IS OF BULK AT MOST 1048576: true; the input reads as it did. -/
def tariffCutsByTimersUptoRow : OpenClaim := { program := "ytldpacphackdjaa", sum := "13c1f39d468e82f6449e405a412cb7b49e7ebd6b8ee2966c54bcd282b8612852", func := "crossbar/crossbarlaw26.TariffCutsByTimers", spec := "tariffCutsByTimers", inPlace := ["slices.overlaps[crossbar/api.Timer]"], unfollowed := true, recurses := true, apart := false, narrowed := true }
def TariffCutsByTimersUptoSaid : Prop := tariffCutsByTimersUptoRow.holds Try.pinned (OpenSpec.upto tariffCutsByTimersSpec)

end Rows
end Go.Proofs.Ytldpacphackdjaa
