/- Contracts: slices.ContainsFunc over numbers, handed a literal that captures nothing. -/
import Derived.Test.YtdlaaccnaokdnaaHNet
import Derived.Test.YtdlaaccnaokdnaaGBase
set_option linter.unusedVariables false
namespace Go.Proofs.Ytdlaaccnaokdnaa.P
open Go.RowKit Go.Proofs.YtdlaaccnaokdnaaV.PrintWords Go.Proofs.YtdlaaccnaokdnaaV.PrintLast Go.Proofs.YtdlaaccnaokdnaaV.PrintMore
theorem metricOk1_f (n : Int) : impl_metricOk_1.f n = some (!costB n) := by unfold impl_metricOk_1.f; rw [costOk_costB]; rfl
def contains_metricOk1.f (l : List Int) : Option Bool := some (l.any fun n => !costB n)
theorem contains_metricOk1.calls (A : Option Addr) (c : Nat) (l : List Int) (r : Bool) (w : World) (hr : Kd.C (Kd.int .i64) w A l.length l) (hc : l.length ≤ c) (h : contains_metricOk1.f l = some r) :
    Calls Try.prog 94 #[.slice A l.length c, .func (.func 104) #[] #[]] w fun e w' => e = .returned (.bool r) ∧ Below w.heap.size w w' := by
  obtain rfl := Option.some.inj h
  refine containsFunc_int _ 104 #[] (enters_of Try.func104 (by kernel_rfl) rfl) A c l w hr (fun W x _ _ => ?_)
  exact (impl_metricOk_1.calls x _ W (metricOk1_f x)).mono (fun e w' he => ⟨he.1, he.2.below⟩)
end Go.Proofs.Ytdlaaccnaokdnaa.P
