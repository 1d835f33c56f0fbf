/- The laws' own tests of likeness, of a thing with itself. -/
import Derived.Test.YtdlaaccnaokdnaaMEv
import Derived.Test.YtdlaaccnaokdnaaGWk
set_option linter.unusedVariables false
namespace Go.Proofs.Ytdlaaccnaokdnaa.M
open Go.RowKit Go.Proofs.Ytdlaaccnaokdnaa.P Go.Proofs.YtdlaaccnaokdnaaV.PrintWords Go.Proofs.YtdlaaccnaokdnaaV.PrintMore

theorem rdL5_at_ (T : List (List Int)) (i : Nat) (hi : i < T.length) : rd_L5 T (i : Int) = T[i] := by
  simp [rd_L5, List.getD, hi]
theorem wkInts_self (l : List Int) (hl : l.length ≤ 4611686018427387904) : Ev (fun k => laws_wkInts.f k l l) true := by
  refine Ev.congr (G := fun k => laws_wkInts.l0 k l l 0) (fun k => by unfold laws_wkInts.f; rw [if_pos rfl]) ?_
  refine downto (P := fun i => Ev (fun k => laws_wkInts.l0 k l l (i : Int)) true) (n := l.length) ?_ ?_
  · refine Ev.step (G := fun _ => some true) (fun k => ?_) (Ev.ret _)
    simp only [laws_wkInts.l0]
    rw [if_neg (by omega)]
  · intro i hi h
    refine Ev.step (fun k => ?_) h
    simp only [laws_wkInts.l0, if_true]
    rw [if_pos (by omega), if_pos (by omega), if_pos (by omega), w64s (by omega)]
theorem wkGrid_self (g : List (List Int)) (hg : g.length ≤ 4611686018427387904) (hr : ∀ r ∈ g, r.length ≤ 4611686018427387904) : Ev (fun k => laws_wkGrid.f k g g) true := by
  refine Ev.congr (G := fun k => laws_wkGrid.l0 k g g 0) (fun k => by unfold laws_wkGrid.f; rw [if_pos rfl]) ?_
  refine downto (P := fun i => Ev (fun k => laws_wkGrid.l0 k g g (i : Int)) true) (n := g.length) ?_ ?_
  · refine Ev.step (G := fun _ => some true) (fun k => ?_) (Ev.ret _)
    simp only [laws_wkGrid.l0]
    rw [if_neg (by omega)]
  · intro i hi h
    refine Ev.step (G := fun k => (laws_wkInts.f k (rd_L5 g (i : Int)) (rd_L5 g (i : Int))).bind fun t103 => (if t103 = true then (laws_wkGrid.l0 k g g ((i + 1 : Nat) : Int)) else (some false))) (fun k => ?_) ?_
    · simp only [laws_wkGrid.l0]
      rw [if_pos (by omega), if_pos (by omega), if_pos (by omega), w64s (by omega)]
    · refine Ev.bind (wkInts_self _ ?_) (Ev.pos rfl h)
      rw [rdL5_at_ g i hi]
      exact hr _ (List.getElem_mem hi)
end Go.Proofs.Ytdlaaccnaokdnaa.M
