/- More of the laws' own helpers: mark.., held... -/
import Derived.Test.YtdlaaccnaokdnaaMHelp
import Derived.Test.YtdlaaccnaokdnaaGMarks
set_option linter.unusedVariables false
namespace Go.Proofs.Ytdlaaccnaokdnaa.M
open Go.RowKit Go.Proofs.Ytdlaaccnaokdnaa.P Go.Proofs.YtdlaaccnaokdnaaV.PrintWords Go.Proofs.YtdlaaccnaokdnaaV.PrintMore
def mk5 (l : List S61) (i m : Int) : List S61 :=
  let y1 := l.set i.toNat ⟨m, (rd_T61 l i).f1, (rd_T61 l i).f2, (rd_T61 l i).f3, (rd_T61 l i).f4⟩
  let y2 := y1.set i.toNat ⟨(rd_T61 y1 i).f0, m + 1, (rd_T61 y1 i).f2, (rd_T61 y1 i).f3, (rd_T61 y1 i).f4⟩
  let y3 := y2.set i.toNat ⟨(rd_T61 y2 i).f0, (rd_T61 y2 i).f1, m + 1 + 1, (rd_T61 y2 i).f3, (rd_T61 y2 i).f4⟩
  let y4 := y3.set i.toNat ⟨(rd_T61 y3 i).f0, (rd_T61 y3 i).f1, (rd_T61 y3 i).f2, m + 1 + 1 + 1, (rd_T61 y3 i).f4⟩
  y4.set i.toNat ⟨(rd_T61 y4 i).f0, (rd_T61 y4 i).f1, (rd_T61 y4 i).f2, (rd_T61 y4 i).f3, m + 1 + 1 + 1 + 1⟩
theorem mk5_set (l : List S61) (i : Nat) (m : Int) (hi : i < l.length) : mk5 l i m = l.set i ⟨m, m + 1, m + 1 + 1, m + 1 + 1 + 1, m + 1 + 1 + 1 + 1⟩ := by
  simp [mk5, rd_T61, List.getD, hi]
/-- arcs that bear the numbers from m on -/
def marksA (m : Int) (n : Nat) : List S61 := (List.range n).map fun (i : Nat) => (⟨m + 5 * (i : Int), m + 5 * (i : Int) + 1, m + 5 * (i : Int) + 1 + 1, m + 5 * (i : Int) + 1 + 1 + 1, m + 5 * (i : Int) + 1 + 1 + 1 + 1⟩ : S61)
theorem marksA_length (m : Int) (n : Nat) : (marksA m n).length = n := by simp [marksA]
theorem markArcS_marks (l : List S61) (m : Int) (hm : 0 ≤ m) (hl : m + 5 * l.length ≤ 4611686018427387904) : Ev (fun k => laws_markArcS.f k l m) (m + 5 * l.length, marksA m l.length) := by
  let st : Nat → List S61 := fun i => marksA m i ++ l.drop i
  have h0 : l = st 0 := by simp [st, marksA]
  show Ev (fun k => laws_markArcS.l0 k l m 0) _
  have hP := downto (P := fun i => Ev (fun k => laws_markArcS.l0 k (st i) (m + 5 * i) (i : Int)) (m + 5 * l.length, marksA m l.length)) (n := l.length) ?_ ?_
  · simpa [← h0] using hP
  · refine Ev.step (G := fun _ => some (m + 5 * l.length, st l.length)) (fun k => ?_) (by simp only [st, List.drop_length, List.append_nil]; exact Ev.ret _)
    simp only [laws_markArcS.l0]
    rw [if_neg (by simp [st, marksA])]
  · intro i hi h
    have hst : (st i).length = l.length := by simp [st, marksA]; omega
    have hx : ∀ (l : List S61) (m : Int) (k : Nat), i < l.length → l.length ≤ 4611686018427387904 → 0 ≤ m → m + 5 ≤ 4611686018427387904 → laws_markArcS.l0 (k + 1) l m (i : Int) = laws_markArcS.l0 k (mk5 l i m) (m + 5) ((i + 1 : Nat) : Int) := by
      intro l m k hi hl h0 h1
      simp only [laws_markArcS.l0]
      rw [if_pos (by omega), if_pos (by omega), w64s (by omega)]
      simp only [Option.bind_some]
      rw [w64 (n := m + 1) (by omega), w64 (n := m + 1 + 1) (by omega), w64 (n := m + 1 + 1 + 1) (by omega), w64 (n := m + 1 + 1 + 1 + 1) (by omega), w64 (n := m + 1 + 1 + 1 + 1 + 1) (by omega), show m + 1 + 1 + 1 + 1 + 1 = m + 5 by omega]
      rfl
    refine Ev.step (G := fun k => laws_markArcS.l0 k (st (i + 1)) (m + 5 * (i + 1 : Nat)) ((i + 1 : Nat) : Int)) (fun k => ?_) h
    rw [hx _ _ _ (by omega) (by omega) (by omega) (by omega), mk5_set _ _ _ (by omega)]
    congr 1
    · simp only [st, marksA]
      rw [List.set_append_right _ _ (by simp), List.range_succ, List.map_append, List.append_assoc]
      congr 1
      simp only [List.length_map, List.length_range, Nat.sub_self]
      rw [List.drop_eq_getElem_cons hi, List.set_cons_zero]
      rfl
    · omega
theorem markNet_marks (n : Int) (l : List S61) (m : Int) (hm : 0 ≤ m) (hl : m + 5 * l.length ≤ 4611686018427387904) : Ev (fun k => laws_markNet.f k n l m) (m + 5 * l.length, marksA m l.length) :=
  Ev.bind (markArcS_marks l m hm hl) (Ev.ret _)
theorem markNet_ex (n : Int) (l : List S61) (m : Int) (hm : 0 ≤ m) (hl : m + 5 * l.length ≤ 4611686018427387904) : ∃ l', Ev (fun k => laws_markNet.f k n l m) (m + 5 * l.length, l') := ⟨_, markNet_marks n l m hm hl⟩

def marks (m : Int) (n : Nat) : List Int := (List.range n).map fun (i : Nat) => m + (i : Int)
theorem marks_length (m : Int) (n : Nat) : (marks m n).length = n := by simp [marks]
theorem markIntS_marks (l : List Int) (m : Int) (hm : 0 ≤ m) (hl : m + l.length ≤ 4611686018427387904) : Ev (fun k => laws_markIntS.f k l m) (m + l.length, marks m l.length) := by
  let st : Nat → List Int := fun i => marks m i ++ l.drop i
  have h0 : l = st 0 := by simp [st, marks]
  show Ev (fun k => laws_markIntS.l0 k l m 0) _
  have hP := downto (P := fun i => Ev (fun k => laws_markIntS.l0 k (st i) (m + i) (i : Int)) (m + l.length, marks m l.length)) (n := l.length) ?_ ?_
  · simpa [← h0] using hP
  · refine Ev.step (G := fun _ => some (m + l.length, st l.length)) (fun k => ?_) (by simp only [st, List.drop_length, List.append_nil]; exact Ev.ret _)
    simp only [laws_markIntS.l0]
    rw [if_neg (by simp [st, marks])]
  · intro i hi h
    have hst : (st i).length = l.length := by simp [st, marks]; omega
    refine Ev.step (G := fun k => laws_markIntS.l0 k (st (i + 1)) (m + (i + 1 : Nat)) ((i + 1 : Nat) : Int)) (fun k => ?_) h
    simp only [laws_markIntS.l0]
    rw [if_pos (by omega), if_pos (by omega), w64s (by omega), w64 (by omega)]
    congr 1
    · simp only [Int.toNat_natCast, st, marks]
      rw [List.set_append_right _ _ (by simp), List.range_succ, List.map_append, List.append_assoc]
      congr 1
      simp only [List.length_map, List.length_range, Nat.sub_self]
      rw [List.drop_eq_getElem_cons hi, List.set_cons_zero]
      rfl
    · omega
theorem heldIntS_marks (m : Int) (n : Nat) (hm : 0 ≤ m) (hl : m + n ≤ 4611686018427387904) : Ev (fun k => laws_heldIntS.f k (marks m n) m) (m + n) := by
  show Ev (fun k => laws_heldIntS.l0 k (marks m n) m 0) _
  have hP := downto (P := fun i => Ev (fun k => laws_heldIntS.l0 k (marks m n) (m + i) (i : Int)) (m + n)) (n := n) ?_ ?_
  · simpa using hP
  · refine Ev.step (G := fun _ => some (m + n)) (fun k => ?_) (Ev.ret _)
    simp only [laws_heldIntS.l0]
    rw [if_neg (by simp [marks])]
  · intro i hi h
    refine Ev.step (G := fun k => laws_heldIntS.l0 k (marks m n) (m + (i + 1 : Nat)) ((i + 1 : Nat) : Int)) (fun k => ?_) h
    simp only [laws_heldIntS.l0]
    rw [if_pos (by rw [marks_length]; omega), if_pos (by omega), w64s (by omega), w64 (by omega), if_pos (by rw [rd_at0 _ i (by rw [marks_length]; exact hi)]; simp [marks])]
    congr 1
    omega
end Go.Proofs.Ytdlaaccnaokdnaa.M
