/- That the printed sanity check of the tariff's laws answers true, and what few tells. Conditions: enough rounds. -/
import Derived.Test.YtldpacphackdjaaPTarProg
import Derived.Test.YtldpacphackdjaaFT
import Derived.Test.YtldpacphackdjaaF20
namespace Go.Proofs.Ytldpacphackdjaa.Print
open Go.RowKit Go.Proofs.YtldpacphackdjaaW.PrintWords Go.Proofs.YtldpacphackdjaaW.PrintLast Go.Proofs.YtldpacphackdjaaW.PrintMore
set_option linter.unusedVariables false
set_option linter.unusedSimpArgs false

theorem sane26_at : crossbarlaw26_sane.f 60 = some true := by kernel_rfl
theorem sane26_is (k : Nat) (hk : 60 ≤ k) : crossbarlaw26_sane.f k = some true := by
  induction k with
  | zero => omega
  | succ k ih =>
    by_cases h : k + 1 = 60
    · rw [h]; exact sane26_at
    · exact crossbarlaw26_sane.mono k _ (ih (by omega))
theorem few_is (l : List S42) : crossbarref26_Few.f l = some (decide (l.length ≤ 100)) := by
  unfold crossbarref26_Few.f
  congr 1
  exact decide_eq_decide.2 (by omega)
end Go.Proofs.Ytldpacphackdjaa.Print
