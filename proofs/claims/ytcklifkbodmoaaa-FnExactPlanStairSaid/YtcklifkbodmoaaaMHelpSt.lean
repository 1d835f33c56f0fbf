/- The laws' own helpers at steps: eq.., mark.., held... -/
import Derived.Test.YtcklifkbodmoaaaMHelp2
import Derived.Test.YtcklifkbodmoaaaGSteps
set_option linter.unusedVariables false
namespace Go.Proofs.Ytcklifkbodmoaaa.M
open Go.RowKit Go.Proofs.Ytcklifkbodmoaaa.P Go.Proofs.YtcklifkbodmoaaaV.PrintWords Go.Proofs.YtcklifkbodmoaaaV.PrintMore
theorem rdS_at (l : List S66) (j : Nat) (hj : j < l.length) : rd_T66 l (j : Int) = l[j] := by
  simp [rd_T66, List.getD, hj]
theorem eqStepS_self (l : List S66) (hl : l.length ≤ 4611686018427387904) : Ev (fun k => laws_eqStepS.f k l l) true := by
  refine Ev.congr (G := fun k => laws_eqStepS.l0 k l l 0) (fun k => by unfold laws_eqStepS.f; rw [if_pos rfl]) ?_
  refine downto (P := fun i => Ev (fun k => laws_eqStepS.l0 k l l (i : Int)) true) (n := l.length) ?_ ?_
  · refine Ev.step (G := fun _ => some true) (fun k => ?_) (Ev.ret _)
    simp only [laws_eqStepS.l0]
    rw [if_neg (by omega)]
  · intro i hi h
    refine Ev.step (fun k => ?_) h
    simp only [laws_eqStepS.l0, laws_eqStep.f, if_true, Option.bind_some]
    rw [if_pos (by omega), if_pos (by omega), if_pos (by omega), w64s (by omega)]
def mk2S (l : List S66) (i m : Int) : List S66 :=
  let y1 := l.set i.toNat ⟨m, (rd_T66 l i).f1⟩
  y1.set i.toNat ⟨(rd_T66 y1 i).f0, m + 1⟩
theorem mk2S_set (l : List S66) (i : Nat) (m : Int) (hi : i < l.length) : mk2S l i m = l.set i ⟨m, m + 1⟩ := by
  simp [mk2S, rd_T66, List.getD, hi]
def marksS (m : Int) (n : Nat) : List S66 := (List.range n).map fun (i : Nat) => (⟨m + 2 * (i : Int), m + 2 * (i : Int) + 1⟩ : S66)
theorem marksS_length (m : Int) (n : Nat) : (marksS m n).length = n := by simp [marksS]
theorem markStepS_marks (l : List S66) (m : Int) (hm : 0 ≤ m) (hl : m + 2 * l.length ≤ 4611686018427387904) : Ev (fun k => laws_markStepS.f k l m) (m + 2 * l.length, marksS m l.length) := by
  let st : Nat → List S66 := fun i => marksS m i ++ l.drop i
  have h0 : l = st 0 := by simp [st, marksS]
  show Ev (fun k => laws_markStepS.l0 k l m 0) _
  have hP := downto (P := fun i => Ev (fun k => laws_markStepS.l0 k (st i) (m + 2 * i) (i : Int)) (m + 2 * l.length, marksS m l.length)) (n := l.length) ?_ ?_
  · simpa [← h0] using hP
  · refine Ev.step (G := fun _ => some (m + 2 * l.length, st l.length)) (fun k => ?_) (by simp only [st, List.drop_length, List.append_nil]; exact Ev.ret _)
    simp only [laws_markStepS.l0]
    rw [if_neg (by simp [st, marksS])]
  · intro i hi h
    have hst : (st i).length = l.length := by simp [st, marksS]; omega
    have hx : ∀ (l : List S66) (m : Int) (k : Nat), i < l.length → l.length ≤ 4611686018427387904 → 0 ≤ m → m + 2 ≤ 4611686018427387904 → laws_markStepS.l0 (k + 1) l m (i : Int) = laws_markStepS.l0 k (mk2S l i m) (m + 2) ((i + 1 : Nat) : Int) := by
      intro l m k hi hl h0 h1
      simp only [laws_markStepS.l0]
      rw [if_pos (by omega), if_pos (by omega), w64s (by omega)]
      simp only [Option.bind_some]
      rw [w64 (n := m + 1) (by omega), w64 (n := m + 1 + 1) (by omega), show m + 1 + 1 = m + 2 by omega]
      rfl
    refine Ev.step (G := fun k => laws_markStepS.l0 k (st (i + 1)) (m + 2 * (i + 1 : Nat)) ((i + 1 : Nat) : Int)) (fun k => ?_) h
    rw [hx _ _ _ (by omega) (by omega) (by omega) (by omega), mk2S_set _ _ _ (by omega)]
    congr 1
    · simp only [st, marksS]
      rw [List.set_append_right _ _ (by simp), List.range_succ, List.map_append, List.append_assoc]
      congr 1
      simp only [List.length_map, List.length_range, Nat.sub_self]
      rw [List.drop_eq_getElem_cons hi, List.set_cons_zero]
      rfl
    · omega
theorem heldStepS_marks (m : Int) (n : Nat) (hm : 0 ≤ m) (hl : m + 2 * n ≤ 4611686018427387904) : Ev (fun k => laws_heldStepS.f k (marksS m n) m) (m + 2 * n) := by
  show Ev (fun k => laws_heldStepS.l0 k (marksS m n) m 0) _
  have hP := downto (P := fun i => Ev (fun k => laws_heldStepS.l0 k (marksS m n) (m + 2 * i) (i : Int)) (m + 2 * n)) (n := n) ?_ ?_
  · simpa using hP
  · refine Ev.step (G := fun _ => some (m + 2 * n)) (fun k => ?_) (Ev.ret _)
    simp only [laws_heldStepS.l0]
    rw [if_neg (by simp [marksS])]
  · intro i hi h
    refine Ev.step (G := fun k => laws_heldStepS.l0 k (marksS m n) (m + 2 * (i + 1 : Nat)) ((i + 1 : Nat) : Int)) (fun k => ?_) h
    have hx : rd_T66 (marksS m n) (i : Int) = ⟨m + 2 * (i : Int), m + 2 * (i : Int) + 1⟩ := by
      rw [rdS_at _ i (by rw [marksS_length]; exact hi)]
      simp [marksS]
    generalize hM : m + 2 * (i : Int) = M at hx
    simp only [laws_heldStepS.l0, hx, if_true]
    rw [w64 (n := M + 1) (by omega), w64 (n := M + 1 + 1) (by omega), if_pos (by rw [marksS_length]; omega), if_pos (by omega), if_pos rfl, w64s (by omega)]
    congr 1
    omega
end Go.Proofs.Ytcklifkbodmoaaa.M
