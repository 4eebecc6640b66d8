/- That the printed law TariffRateSpec answers true at every tariff and time. No condition that the law itself does not guard. -/
import Derived.Test.YtldpacphackdjaaPTarRef3
import Derived.Test.YtldpacphackdjaaRowKit
import Derived.Test.YtldpacphackdjaaF3
namespace Go.Proofs.Ytldpacphackdjaa.Print
open Go.RowKit Go.Proofs.YtldpacphackdjaaW.PrintWords Go.Proofs.YtldpacphackdjaaW.PrintLast Go.Proofs.YtldpacphackdjaaW.PrintMore
set_option linter.unusedVariables false

theorem TariffRateSpec_pure (l : List S42) (x : Int) (hn : l.length ≤ 9223372036854775807) (hw : ∀ x ∈ l, Rng x.f0 ∧ Rng x.f1) (w1 : (Lit.int .i64 x).wf = true) : ∃ k, crossbarlaw26_TariffRateSpec.f k l x = some true := by
  refine ⟨200, ?_⟩
  unfold crossbarlaw26_TariffRateSpec.f
  rw [sane26_is 200 (by omega), Option.bind_some, if_pos rfl, few_is, Option.bind_some]
  by_cases hf : l.length ≤ 100
  · rw [if_pos (decide_eq_true hf), rate_is l x 200 (by omega), Option.bind_some, rrate_is l x 200 (by omega), Option.bind_some]
    have hch : ∃ v, tariff_Change.f 200 l x = some v ∧ crossbarref26_Change.f 200 l x = some v := by
      by_cases h : good l = true ∧ 0 ≤ x ∧ x ≤ 1099511627776
      · obtain ⟨n1, o1, e1, c1, _⟩ := change_yes h.1 x h.2.1 h.2.2 200 (by omega)
        obtain ⟨n2, o2, e2, c2⟩ := rchange_yes h.1 x h.2.1 h.2.2 200 (by omega)
        obtain ⟨rfl, rfl⟩ := c1.unique c2
        exact ⟨_, e1, e2⟩
      · exact ⟨_, change_no l x 200 (by omega) h, rchange_no l x 200 (by omega) h⟩
    obtain ⟨v, e1, e2⟩ := hch
    rw [e1, Option.bind_some, e2, Option.bind_some, if_pos rfl, if_pos rfl, if_pos rfl, if_pos (by simp), if_pos rfl, check_is l 200 (by omega), Option.bind_some, rcheck_is l 200 (by omega), Option.bind_some]
    simp
  · rw [if_neg (by simpa using hf)]
end Go.Proofs.Ytldpacphackdjaa.Print
