/- That the printed law TariffPriceSpec answers true at every tariff and all numbers. No condition that the law itself does not guard. -/
import Derived.Test.YtldpacphackdjaaPTarRef3
import Derived.Test.YtldpacphackdjaaRowKit
import Derived.Test.YtldpacphackdjaaF4
namespace Go.Proofs.Ytldpacphackdjaa.Print
open Go.RowKit Go.Proofs.YtldpacphackdjaaW.PrintWords Go.Proofs.YtldpacphackdjaaW.PrintLast Go.Proofs.YtldpacphackdjaaW.PrintMore
set_option linter.unusedVariables false

theorem TariffPriceSpec_pure (l : List S42) (a b u m : Int) (hn : l.length ≤ 9223372036854775807) (hw : ∀ x ∈ l, Rng x.f0 ∧ Rng x.f1) (w1 : (Lit.int .i64 a).wf = true) (w2 : (Lit.int .i64 b).wf = true) (w3 : (Lit.int .i64 u).wf = true) (w4 : (Lit.int .i64 m).wf = true) : ∃ k, crossbarlaw26_TariffPriceSpec.f k l a b u m = some true := by
  refine ⟨200, ?_⟩
  unfold crossbarlaw26_TariffPriceSpec.f
  rw [sane26_is 200 (by omega), Option.bind_some, if_pos rfl, few_is, Option.bind_some]
  by_cases hf : l.length ≤ 100
  · rw [if_pos (decide_eq_true hf), price_is l a b 200 (by omega), Option.bind_some, rprice_is l a b 200 (by omega), Option.bind_some, rafford_is l a u m 200 (by omega)]
    obtain ⟨v, hv⟩ : ∃ v, tariff_Afford.f l a u m = some v := by
      unfold tariff_Afford.f
      split
      · split <;> exact ⟨_, rfl⟩
      · exact ⟨_, rfl⟩
    rw [hv, Option.bind_some, Option.bind_some]
    simp
  · rw [if_neg (by simpa using hf)]
end Go.Proofs.Ytldpacphackdjaa.Print
