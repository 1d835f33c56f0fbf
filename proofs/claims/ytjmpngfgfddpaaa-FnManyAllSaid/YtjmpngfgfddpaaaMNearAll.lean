/- NearAll of a net that is ok. -/
import Derived.Test.YtjmpngfgfddpaaaMTab
import Derived.Test.YtjmpngfgfddpaaaMList
import Derived.Test.YtjmpngfgfddpaaaPFImplNearall
set_option linter.unusedVariables false
namespace Go.Proofs.Ytjmpngfgfddpaaa.M
open Go.RowKit Go.Proofs.Ytjmpngfgfddpaaa.P Go.Proofs.YtjmpngfgfddpaaaV.PrintWords Go.Proofs.YtjmpngfgfddpaaaV.PrintMore

theorem nearAll_ev {nodes s : Int} {l : List S33} {D : List Int} (h : netOkB nodes l = true) (hs : inB nodes s = true) (hD : Ev (fun k => impl_Net_from.f k nodes l s) D) : Ev (fun k => impl_NearAll.f k nodes l s) D := by
  unfold impl_NearAll.f impl_nodesIn.f impl_NetOk.f impl_Net_has.f
  simp only [h, hs, Option.bind_some, if_true, List.all_cons, List.all_nil, Bool.and_self]
  exact Ev.bind hD (Ev.ret _)
end Go.Proofs.Ytjmpngfgfddpaaa.M
