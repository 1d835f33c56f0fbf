/- Contracts: slices.ContainsFunc over numbers, handed a literal that captures nothing. -/
import Derived.Test.YtblpdfgplifccaaHNet
import Derived.Test.YtblpdfgplifccaaGBase
set_option linter.unusedVariables false
namespace Go.Proofs.Ytblpdfgplifccaa.P
open Go.RowKit Go.Proofs.YtblpdfgplifccaaV.PrintWords Go.Proofs.YtblpdfgplifccaaV.PrintLast Go.Proofs.YtblpdfgplifccaaV.PrintMore
def partB (n : Int) : Bool := decide (0 ≤ n) && decide (n ≤ 3)
theorem metricOk1_f (n : Int) : impl_metricOk_1.f n = some (!costB n) := by unfold impl_metricOk_1.f; rw [costOk_costB]; rfl
theorem partOk1_f (n : Int) : impl_partOk_1.f n = some (!partB n) := by unfold impl_partOk_1.f; rw [within_le]; rfl
def contains_metricOk1.f (l : List Int) : Option Bool := some (l.any fun n => !costB n)
def contains_partOk1.f (l : List Int) : Option Bool := some (l.any fun n => !partB n)
theorem contains_metricOk1.calls (A : Option Addr) (c : Nat) (l : List Int) (r : Bool) (w : World) (hr : Kd.C (Kd.int .i64) w A l.length l) (hc : l.length ≤ c) (h : contains_metricOk1.f l = some r) :
    Calls Try.prog 98 #[.slice A l.length c, .func (.func 99) #[] #[]] w fun e w' => e = .returned (.bool r) ∧ Below w.heap.size w w' := by
  obtain rfl := Option.some.inj h
  refine containsFunc_int _ 99 #[] (enters_of Try.func99 (by kernel_rfl) rfl) A c l w hr (fun W x _ _ => ?_)
  exact (impl_metricOk_1.calls x _ W (metricOk1_f x)).mono (fun e w' he => ⟨he.1, he.2.below⟩)
theorem contains_partOk1.calls (A : Option Addr) (c : Nat) (l : List Int) (r : Bool) (w : World) (hr : Kd.C (Kd.int .i64) w A l.length l) (hc : l.length ≤ c) (h : contains_partOk1.f l = some r) :
    Calls Try.prog 98 #[.slice A l.length c, .func (.func 105) #[] #[]] w fun e w' => e = .returned (.bool r) ∧ Below w.heap.size w w' := by
  obtain rfl := Option.some.inj h
  refine containsFunc_int _ 105 #[] (enters_of Try.func105 (by kernel_rfl) rfl) A c l w hr (fun W x _ _ => ?_)
  exact (impl_partOk_1.calls x _ W (partOk1_f x)).mono (fun e w' he => ⟨he.1, he.2.below⟩)
end Go.Proofs.Ytblpdfgplifccaa.P
