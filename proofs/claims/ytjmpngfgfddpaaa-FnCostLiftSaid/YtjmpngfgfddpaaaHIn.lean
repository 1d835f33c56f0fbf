/- Contracts: slices.ContainsFunc over numbers, handed a literal that captures nothing. -/
import Derived.Test.YtjmpngfgfddpaaaHNet
import Derived.Test.YtjmpngfgfddpaaaPFImplMetricok1
import Derived.Test.YtjmpngfgfddpaaaPFImplPartok1
import Derived.Test.YtjmpngfgfddpaaaPFImplCostlift1
set_option linter.unusedVariables false
namespace Go.Proofs.Ytjmpngfgfddpaaa.P
open Go.RowKit Go.Proofs.YtjmpngfgfddpaaaV.PrintWords Go.Proofs.YtjmpngfgfddpaaaV.PrintLast Go.Proofs.YtjmpngfgfddpaaaV.PrintMore
def partB (n : Int) : Bool := decide (0 ≤ n) && decide (n ≤ 3)
theorem metricOk1_f (n : Int) : impl_metricOk_1.f n = some (!costB n) := by unfold impl_metricOk_1.f; rw [costOk_costB]; rfl
theorem partOk1_f (n : Int) : impl_partOk_1.f n = some (!partB n) := by unfold impl_partOk_1.f; rw [within_le]; rfl
theorem CostLift1_f (n : Int) : impl_CostLift_1.f n = some (!costB n) := by unfold impl_CostLift_1.f; rw [costOk_costB]; rfl
def contains_metricOk1.f (l : List Int) : Option Bool := some (l.any fun n => !costB n)
def contains_partOk1.f (l : List Int) : Option Bool := some (l.any fun n => !partB n)
def contains_CostLift1.f (l : List Int) : Option Bool := some (l.any fun n => !costB n)
theorem contains_metricOk1.calls (A : Option Addr) (c : Nat) (l : List Int) (r : Bool) (w : World) (hr : Kd.C (Kd.int .i64) w A l.length l) (hc : l.length ≤ c) (h : contains_metricOk1.f l = some r) :
    Calls Try.prog 120 #[.slice A l.length c, .func (.func 151) #[] #[]] w fun e w' => e = .returned (.bool r) ∧ Below w.heap.size w w' := by
  obtain rfl := Option.some.inj h
  refine containsFunc_int _ 151 #[] (enters_of Try.func151 (by kernel_rfl) rfl) A c l w hr (fun W x _ _ => ?_)
  exact (impl_metricOk_1.calls x _ W (metricOk1_f x)).mono (fun e w' he => ⟨he.1, he.2.below⟩)
theorem contains_partOk1.calls (A : Option Addr) (c : Nat) (l : List Int) (r : Bool) (w : World) (hr : Kd.C (Kd.int .i64) w A l.length l) (hc : l.length ≤ c) (h : contains_partOk1.f l = some r) :
    Calls Try.prog 120 #[.slice A l.length c, .func (.func 155) #[] #[]] w fun e w' => e = .returned (.bool r) ∧ Below w.heap.size w w' := by
  obtain rfl := Option.some.inj h
  refine containsFunc_int _ 155 #[] (enters_of Try.func155 (by kernel_rfl) rfl) A c l w hr (fun W x _ _ => ?_)
  exact (impl_partOk_1.calls x _ W (partOk1_f x)).mono (fun e w' he => ⟨he.1, he.2.below⟩)
theorem contains_CostLift1.calls (A : Option Addr) (c : Nat) (l : List Int) (r : Bool) (w : World) (hr : Kd.C (Kd.int .i64) w A l.length l) (hc : l.length ≤ c) (h : contains_CostLift1.f l = some r) :
    Calls Try.prog 120 #[.slice A l.length c, .func (.func 121) #[] #[]] w fun e w' => e = .returned (.bool r) ∧ Below w.heap.size w w' := by
  obtain rfl := Option.some.inj h
  refine containsFunc_int _ 121 #[] (enters_of Try.func121 (by kernel_rfl) rfl) A c l w hr (fun W x _ _ => ?_)
  exact (impl_CostLift_1.calls x _ W (CostLift1_f x)).mono (fun e w' he => ⟨he.1, he.2.below⟩)
end Go.Proofs.Ytjmpngfgfddpaaa.P
