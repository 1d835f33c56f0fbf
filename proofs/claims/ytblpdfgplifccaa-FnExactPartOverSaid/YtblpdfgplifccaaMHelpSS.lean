/- Rows of rows: equal to itself; the marks that were laid stand. -/
import Derived.Test.YtblpdfgplifccaaHMarkSS
import Derived.Test.YtblpdfgplifccaaGSS
import Derived.Test.YtblpdfgplifccaaMHelp
import Derived.Test.YtblpdfgplifccaaMWk
set_option linter.unusedVariables false
namespace Go.Proofs.Ytblpdfgplifccaa.M
open Go.RowKit Go.Proofs.Ytblpdfgplifccaa.P
theorem eqIntSS_self (g : List (List Int)) (hg : g.length ≤ 4611686018427387904) (hr : ∀ r ∈ g, r.length ≤ 4611686018427387904) : Ev (fun k => laws_eqIntSS.f k g g) true := by
  refine Ev.congr (G := fun k => laws_eqIntSS.l0 k g g 0) (fun k => by unfold laws_eqIntSS.f; rw [if_pos rfl]) ?_
  refine downto (P := fun i => Ev (fun k => laws_eqIntSS.l0 k g g (i : Int)) true) (n := g.length) ?_ ?_
  · refine Ev.step (G := fun _ => some true) (fun k => ?_) (Ev.ret _)
    simp only [laws_eqIntSS.l0]
    rw [if_neg (by omega)]
  · intro i hi h
    refine Ev.step (G := fun k => (laws_eqIntS.f k (rd_L5 g (i : Int)) (rd_L5 g (i : Int))).bind fun t103 => (if t103 = true then (laws_eqIntSS.l0 k g g ((i + 1 : Nat) : Int)) else (some false))) (fun k => ?_) ?_
    · simp only [laws_eqIntSS.l0]
      rw [if_pos (by omega), if_pos (by omega), if_pos (by omega), w64s (by omega)]
    · refine Ev.bind (eqIntS_self _ ?_) (Ev.pos rfl h)
      rw [rdL5_at_ g i hi]
      exact hr _ (List.getElem_mem hi)
theorem marksSS_at (m : Int) (l : List (List Int)) (i : Nat) (hi : i < l.length) : (marksSS m l)[i]'(by rw [marksSS_length]; exact hi) = marks (m + msum (l.take i)) l[i].length := by
  have e : l = l.take i ++ l[i] :: l.drop (i + 1) := by rw [← List.drop_eq_getElem_cons hi, List.take_append_drop]
  have key : ∀ (a : List (List Int)) (m : Int) (r : List Int) (b : List (List Int)), (marksSS m (a ++ r :: b))[a.length]? = some (marks (m + msum a) r.length) := by
    intro a
    induction a with
    | nil => intro m r b; simp [marksSS, msum]
    | cons x a ih =>
      intro m r b
      simp only [List.cons_append, marksSS, List.length_cons, List.getElem?_cons_succ]
      rw [ih]
      simp only [msum, List.map_cons, List.sum_cons]
      congr 2
      omega
  have h := key (l.take i) m l[i] (l.drop (i + 1))
  rw [← e, List.length_take, Nat.min_eq_left (by omega), List.getElem?_eq_getElem (by rw [marksSS_length]; exact hi)] at h
  exact Option.some.inj h
theorem heldIntSS_marks (m : Int) (l : List (List Int)) (hm : 0 ≤ m) (hl : m + msum l ≤ 4611686018427387904) (hn : l.length ≤ 1048576) : Ev (fun k => laws_heldIntSS.f k (marksSS m l) m) (m + msum l) := by
  show Ev (fun k => laws_heldIntSS.l0 k (marksSS m l) m 0) _
  have hP := downto (P := fun i => Ev (fun k => laws_heldIntSS.l0 k (marksSS m l) (m + msum (l.take i)) (i : Int)) (m + msum l)) (n := l.length) ?_ ?_
  · simpa [msum] using hP
  · refine Ev.step (G := fun _ => some (m + msum l)) (fun k => ?_) (Ev.ret _)
    simp only [laws_heldIntSS.l0]
    rw [if_neg (by rw [marksSS_length]; omega), List.take_length]
  · intro i hi h
    have h1 := msum_take l i hi
    have h2 := msum_le l (i + 1)
    refine Ev.step (G := fun k => (laws_heldIntS.f k (marks (m + msum (l.take i)) l[i].length) (m + msum (l.take i))).bind fun t102 => (if t102 < 0 then (some (-1)) else (laws_heldIntSS.l0 k (marksSS m l) t102 ((i + 1 : Nat) : Int)))) (fun k => ?_) ?_
    · simp only [laws_heldIntSS.l0]
      rw [if_pos (by rw [marksSS_length]; omega), if_pos (by omega), w64s (by omega), rdL5_at_ _ i (by rw [marksSS_length]; exact hi), marksSS_at m l i hi]
    · refine Ev.bind (heldIntS_marks _ _ (by omega) (by omega)) (Ev.neg (by omega) ?_)
      rw [show m + (msum (l.take i) : Int) + (l[i].length : Int) = m + (msum (l.take (i + 1)) : Int) by omega]
      exact h
end Go.Proofs.Ytblpdfgplifccaa.M
