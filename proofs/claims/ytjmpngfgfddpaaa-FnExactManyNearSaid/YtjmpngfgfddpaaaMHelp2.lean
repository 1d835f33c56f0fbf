/- More of the laws' own helpers: toIntS, heldNet. -/
import Derived.Test.YtjmpngfgfddpaaaMHelp
import Derived.Test.YtjmpngfgfddpaaaPFLawsToints
import Derived.Test.YtjmpngfgfddpaaaPFLawsHeldnet
set_option linter.unusedVariables false
namespace Go.Proofs.Ytjmpngfgfddpaaa.M
open Go.RowKit Go.Proofs.Ytjmpngfgfddpaaa.P Go.Proofs.YtjmpngfgfddpaaaV.PrintWords Go.Proofs.YtjmpngfgfddpaaaV.PrintMore
theorem toIntS_self (l : List Int) (hl : l.length ≤ 1048576) : Ev (fun k => laws_toIntS.f k l) l := by
  refine Ev.congr (G := fun k => laws_toIntS.l0 k l (List.replicate l.length 0) 0) (fun k => by unfold laws_toIntS.f; rw [if_pos (by omega), if_pos (by omega)]; rfl) ?_
  let st : Nat → List Int := fun i => l.take i ++ List.replicate (l.length - i) 0
  have h0 : List.replicate l.length 0 = st 0 := by simp [st]
  rw [h0]
  refine downto (P := fun i => Ev (fun k => laws_toIntS.l0 k l (st i) (i : Int)) l) (n := l.length) ?_ ?_
  · refine Ev.step (G := fun _ => some (st l.length)) (fun k => ?_) (by simp only [st, List.take_length, Nat.sub_self, List.replicate_zero, List.append_nil]; exact Ev.ret _)
    simp only [laws_toIntS.l0]
    rw [if_neg (by omega)]
  · intro i hi h
    have hst : (st i).length = l.length := by simp [st]; omega
    refine Ev.step (G := fun k => laws_toIntS.l0 k l (st (i + 1)) ((i + 1 : Nat) : Int)) (fun k => ?_) h
    simp only [laws_toIntS.l0]
    rw [if_pos (by omega), if_pos (by omega), if_pos (by omega), w64s (by omega), rd_at0 l i hi]
    congr 1
    simp only [Int.toNat_natCast, st]
    rw [List.take_succ_eq_append_getElem hi, List.append_assoc, List.set_append_right _ _ (by simp; omega)]
    congr 1
    simp only [List.length_take, Nat.min_eq_left (Nat.le_of_lt hi), Nat.sub_self, List.singleton_append]
    rw [show l.length - i = (l.length - (i + 1)) + 1 by omega, List.replicate_succ, List.set_cons_zero]
theorem heldArcS_marks (m : Int) (n : Nat) (hm : 0 ≤ m) (hl : m + 5 * n ≤ 4611686018427387904) : Ev (fun k => laws_heldArcS.f k (marksA m n) m) (m + 5 * n) := by
  show Ev (fun k => laws_heldArcS.l0 k (marksA m n) m 0) _
  have hP := downto (P := fun i => Ev (fun k => laws_heldArcS.l0 k (marksA m n) (m + 5 * i) (i : Int)) (m + 5 * n)) (n := n) ?_ ?_
  · simpa using hP
  · refine Ev.step (G := fun _ => some (m + 5 * n)) (fun k => ?_) (Ev.ret _)
    simp only [laws_heldArcS.l0]
    rw [if_neg (by simp [marksA])]
  · intro i hi h
    refine Ev.step (G := fun k => laws_heldArcS.l0 k (marksA m n) (m + 5 * (i + 1 : Nat)) ((i + 1 : Nat) : Int)) (fun k => ?_) h
    have hx : rd_T33 (marksA m n) (i : Int) = ⟨m + 5 * (i : Int), m + 5 * (i : Int) + 1, m + 5 * (i : Int) + 1 + 1, m + 5 * (i : Int) + 1 + 1 + 1, m + 5 * (i : Int) + 1 + 1 + 1 + 1⟩ := by
      rw [rd_T33_at _ i (by rw [marksA_length]; exact hi)]
      simp [marksA]
    generalize hM : m + 5 * (i : Int) = M at hx
    simp only [laws_heldArcS.l0, hx, if_true]
    rw [w64 (n := M + 1) (by omega), w64 (n := M + 1 + 1) (by omega), w64 (n := M + 1 + 1 + 1) (by omega), w64 (n := M + 1 + 1 + 1 + 1) (by omega), w64 (n := M + 1 + 1 + 1 + 1 + 1) (by omega)]
    rw [if_pos (by rw [marksA_length]; omega), if_pos (by omega), if_pos rfl, if_pos rfl, if_pos rfl, if_pos rfl, w64s (by omega)]
    congr 1
    omega
theorem heldNet_marks (c m : Int) (n : Nat) (hm : 0 ≤ m) (hl : m + 5 * n ≤ 4611686018427387904) : Ev (fun k => laws_heldNet.f k c (marksA m n) m) (m + 5 * n) :=
  Ev.bind (heldArcS_marks m n hm hl) (Ev.neg (by omega) (Ev.ret _))
end Go.Proofs.Ytjmpngfgfddpaaa.M
