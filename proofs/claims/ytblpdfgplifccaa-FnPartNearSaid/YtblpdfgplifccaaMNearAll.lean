/- NearAll of a net that is ok. -/
import Derived.Test.YtblpdfgplifccaaMTab
import Derived.Test.YtblpdfgplifccaaMList
import Derived.Test.YtblpdfgplifccaaGFrom
set_option linter.unusedVariables false
namespace Go.Proofs.Ytblpdfgplifccaa.M
open Go.RowKit Go.Proofs.Ytblpdfgplifccaa.P Go.Proofs.YtblpdfgplifccaaV.PrintWords Go.Proofs.YtblpdfgplifccaaV.PrintMore

theorem nearAll_ev {nodes s : Int} {l : List S33} {D : List Int} (h : netOkB nodes l = true) (hs : inB nodes s = true) (hD : Ev (fun k => impl_Net_from.f k nodes l s) D) : Ev (fun k => impl_NearAll.f k nodes l s) D := by
  unfold impl_NearAll.f impl_nodesIn.f impl_NetOk.f impl_Net_has.f
  simp only [h, hs, Option.bind_some, if_true, List.all_cons, List.all_nil, Bool.and_self]
  exact Ev.bind hD (Ev.ret _)
end Go.Proofs.Ytblpdfgplifccaa.M
