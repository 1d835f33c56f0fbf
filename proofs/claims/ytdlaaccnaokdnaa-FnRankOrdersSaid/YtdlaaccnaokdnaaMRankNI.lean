/- RankNear of the program. -/
import Derived.Test.YtdlaaccnaokdnaaMRankK
import Derived.Test.YtdlaaccnaokdnaaMRankC
import Derived.Test.YtdlaaccnaokdnaaHNearR
set_option linter.unusedVariables false
namespace Go.Proofs.Ytdlaaccnaokdnaa.M
open Go.RowKit Go.Proofs.Ytdlaaccnaokdnaa.P Go.Proofs.YtdlaaccnaokdnaaV.PrintWords Go.Proofs.YtdlaaccnaokdnaaV.PrintMore
def nearR (n : Int) (l : List S61) (o : List Int) (c v : List (List Int)) (a b : Int) : Int × Int := if RkOk n l o c v ∧ (inB n a && (inB n b && true)) = true then near (rkAll o (arcS l)).1 o a b else (-1, -1)
theorem implNear_ev (n : Int) (l : List S61) (o : List Int) (c v : List (List Int)) (a b : Int) (ho : o.length ≤ 1048576) (hc : Few c) (hv : Few v) : Ev (fun k => impl_RankNear.f k n l o c v a b) (nearR n l o c v a b) := by
  unfold impl_RankNear.f
  refine Ev.bind (implRankOk_ev n l o c v ho hc hv) ?_
  unfold nearR
  by_cases h : RkOk n l o c v
  rotate_left
  · rw [if_neg (fun h2 : RkOk n l o c v ∧ _ => h h2.1)]
    exact Ev.neg (by simp [h]) (Ev.ret _)
  refine Ev.pos (by simp [h]) ?_
  by_cases h2 : (inB n a && (inB n b && true)) = true
  · rw [if_pos (show RkOk n l o c v ∧ (inB n a && (inB n b && true)) = true from ⟨h, h2⟩)]
    exact Ev.pos h2 (Ev.ret _)
  · rw [if_neg (fun h3 : RkOk n l o c v ∧ _ => h2 h3.2)]
    exact Ev.neg h2 (Ev.ret _)
end Go.Proofs.Ytdlaaccnaokdnaa.M
