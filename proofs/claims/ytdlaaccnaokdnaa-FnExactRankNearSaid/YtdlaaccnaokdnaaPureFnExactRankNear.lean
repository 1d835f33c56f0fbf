import Derived.Test.YtdlaaccnaokdnaaPFLawsFnexactranknear
import Derived.Test.YtdlaaccnaokdnaaMRankN
import Derived.Test.YtdlaaccnaokdnaaMRankE
namespace Go.Proofs.Ytdlaaccnaokdnaa.Pure
open Go.RowKit Go.Proofs.Ytdlaaccnaokdnaa.P Go.Proofs.Ytdlaaccnaokdnaa.M
theorem FnExactRankNear : laws_FnExactRankNear.Pure := by
  intro n l o c v a b _ hl _ ho _ hc hcr _ hv hvr _ _ _
  by_cases hL : l.length ≤ 1048576
  rotate_left
  · refine ⟨0, ?_⟩
    unfold laws_FnExactRankNear.f
    rw [szNet_val n l hl, if_neg hL]
    rfl
  apply Ev.get
  unfold laws_FnExactRankNear.f
  rw [szNet_val n l hl, if_pos hL]
  simp only [Option.bind_some]
  refine Ev.neg (by omega) ?_
  obtain ⟨t, h1, _, h2⟩ := szRank_ev o c v (1048576 - (l.length : Int)) (by omega) ho hc hcr hv hvr
  refine Ev.bind h1 ?_
  by_cases ht : t < 0
  · exact Ev.pos ht (Ev.ret _)
  refine Ev.neg ht ?_
  obtain ⟨ho2, hc2, hv2⟩ := h2 (by omega)
  have hN := toNet_map n l hL
  have hT := toRank_self ho2 hc2 hv2
  have hm : (l.map toA).length = l.length := List.length_map ..
  generalize hA : l.map toA = A at hN hm
  have hE := eqNet_self n A (by omega)
  have hI := eqRank_self ho2 hc2 hv2
  refine Ev.bind hN (Ev.bind hT (Ev.bind (specNear_ev n A o c v a b (by omega) ho2) (Ev.bind hN (Ev.bind hT (Ev.bind (implNear_ev n A o c v a b ho2 hc2 hv2) (Ev.pos rfl ?_))))))
  refine Ev.step (G := fun k => (laws_toNet.f k n l).bind fun bt137 => ((laws_eqNet.f k n A bt137.1 bt137.2).bind fun t141 => (if t141 = true then ((laws_toRank.f k o c v).bind fun bt142 => ((laws_eqRank.f k o c v bt142.1 bt142.2.1 bt142.2.2).bind fun t151 => (if t151 = true then (some true) else (some false)))) else (some false)))) (fun k => ?_) ?_
  · simp only [laws_FnExactRankNear.j0]
    rw [if_neg (by simp)]
  · exact Ev.bind hN (Ev.bind hE (Ev.pos rfl (Ev.bind hT (Ev.bind hI (Ev.pos rfl (Ev.ret _))))))
end Go.Proofs.Ytdlaaccnaokdnaa.Pure
