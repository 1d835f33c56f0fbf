/- NetBack of a net that is ok. -/
import Derived.Test.YtjmpngfgfddpaaaMTab
import Derived.Test.YtjmpngfgfddpaaaMList
import Derived.Test.YtjmpngfgfddpaaaPFImplNetback
set_option linter.unusedVariables false
namespace Go.Proofs.Ytjmpngfgfddpaaa.M
open Go.RowKit Go.Proofs.Ytjmpngfgfddpaaa.P Go.Proofs.YtjmpngfgfddpaaaV.PrintWords Go.Proofs.YtjmpngfgfddpaaaV.PrintMore

theorem netBack_ev {nodes : Int} {l : List S33} (h : netOkB nodes l = true) : Ev (fun k => impl_NetBack.f k nodes l) (nodes, l.map swapA) := by
  obtain ⟨n1, n2, n3⟩ := Good.nodes h
  unfold impl_NetBack.f impl_NetOk.f
  simp only [h, Option.bind_some, if_true]
  exact Ev.bind (back_ev nodes l (by omega)) (Ev.ret _)
end Go.Proofs.Ytjmpngfgfddpaaa.M
