/- What the laws' own helpers come to: eq.., to.., mark.., held.. of ints, arcs and nets; More of the laws' own helpers: mark.., held. -/
import Derived.Test.YtdlaaccnaokdnaaMRankG
import Derived.Test.YtdlaaccnaokdnaaGLaws
import Derived.Test.YtdlaaccnaokdnaaGMarks
set_option linter.unusedVariables false
namespace Go.Proofs.Ytdlaaccnaokdnaa.M
open Go.RowKit Go.Proofs.Ytdlaaccnaokdnaa.P Go.Proofs.YtdlaaccnaokdnaaV.PrintWords Go.Proofs.YtdlaaccnaokdnaaV.PrintMore

theorem eqIntS_self (l : List Int) (hl : l.length ≤ 4611686018427387904) : Ev (fun k => laws_eqIntS.f k l l) true := by
  refine Ev.congr (G := fun k => laws_eqIntS.l0 k l l 0) (fun k => by unfold laws_eqIntS.f; rw [if_pos rfl]) ?_
  refine downto (P := fun i => Ev (fun k => laws_eqIntS.l0 k l l (i : Int)) true) (n := l.length) ?_ ?_
  · refine Ev.step (G := fun _ => some true) (fun k => ?_) (Ev.ret _)
    simp only [laws_eqIntS.l0]
    rw [if_neg (by omega)]
  · intro i hi h
    refine Ev.step (fun k => ?_) h
    simp only [laws_eqIntS.l0, if_true]
    rw [if_pos (by omega), if_pos (by omega), if_pos (by omega), w64s (by omega)]

def toA (x : S103) : S61 := ⟨x.f0, x.f1, x.f2, x.f3, x.f4⟩
theorem toArcS_map (l : List S103) (hl : l.length ≤ 1048576) : Ev (fun k => laws_toArcS.f k l) (l.map toA) := by
  refine Ev.congr (G := fun k => laws_toArcS.l0 k l (List.replicate l.length z61) 0) (fun k => by unfold laws_toArcS.f; rw [if_pos (by omega), if_pos (by omega)]; rfl) ?_
  let st : Nat → List S61 := fun i => (l.take i).map toA ++ List.replicate (l.length - i) z61
  have h0 : List.replicate l.length z61 = st 0 := by simp [st]
  rw [h0]
  refine downto (P := fun i => Ev (fun k => laws_toArcS.l0 k l (st i) (i : Int)) (l.map toA)) (n := l.length) ?_ ?_
  · refine Ev.step (G := fun _ => some (st l.length)) (fun k => ?_) (by simp only [st, List.take_length, Nat.sub_self, List.replicate_zero, List.append_nil]; exact Ev.ret _)
    simp only [laws_toArcS.l0]
    rw [if_neg (by omega)]
  · intro i hi h
    have hst : (st i).length = l.length := by simp [st]; omega
    refine Ev.step (G := fun k => laws_toArcS.l0 k l (st (i + 1)) ((i + 1 : Nat) : Int)) (fun k => ?_) h
    simp only [laws_toArcS.l0, laws_toArc.f, Option.bind_some]
    rw [if_pos (by omega), if_pos (by omega), if_pos (by omega), w64s (by omega), rd120_at l i hi]
    congr 1
    simp only [Int.toNat_natCast, st]
    rw [List.take_succ_eq_append_getElem hi, List.map_append, List.append_assoc, List.set_append_right _ _ (by simp; omega)]
    congr 1
    simp only [List.length_map, List.length_take, Nat.min_eq_left (Nat.le_of_lt hi), Nat.sub_self, List.map_cons, List.map_nil, List.singleton_append]
    rw [show l.length - i = (l.length - (i + 1)) + 1 by omega, List.replicate_succ, List.set_cons_zero]
    rfl
theorem toNet_map (n : Int) (l : List S103) (hl : l.length ≤ 1048576) : Ev (fun k => laws_toNet.f k n l) (n, l.map toA) :=
  Ev.bind (toArcS_map l hl) (Ev.ret _)

theorem eqArcS_self (l : List S61) (hl : l.length ≤ 4611686018427387904) : Ev (fun k => laws_eqArcS.f k l l) true := by
  refine Ev.congr (G := fun k => laws_eqArcS.l0 k l l 0) (fun k => by unfold laws_eqArcS.f; rw [if_pos rfl]) ?_
  refine downto (P := fun i => Ev (fun k => laws_eqArcS.l0 k l l (i : Int)) true) (n := l.length) ?_ ?_
  · refine Ev.step (G := fun _ => some true) (fun k => ?_) (Ev.ret _)
    simp only [laws_eqArcS.l0]
    rw [if_neg (by omega)]
  · intro i hi h
    refine Ev.step (fun k => ?_) h
    simp only [laws_eqArcS.l0, laws_eqArc.f, if_true, Option.bind_some]
    rw [if_pos (by omega), if_pos (by omega), if_pos (by omega), w64s (by omega)]
theorem eqNet_self (n : Int) (l : List S61) (hl : l.length ≤ 4611686018427387904) : Ev (fun k => laws_eqNet.f k n l n l) true := by
  refine Ev.congr (G := fun k => (laws_eqArcS.f k l l).bind fun t => if t = true then some true else some false) (fun k => by unfold laws_eqNet.f; rw [if_pos rfl]) ?_
  exact Ev.bind (eqArcS_self l hl) (Ev.ret _)

theorem szNet_val (n : Int) (l : List S103) (hl : l.length ≤ 9223372036854775807) : laws_szNet.f n l 1048576 = some (if l.length ≤ 1048576 then 1048576 - (l.length : Int) else -1) := by
  unfold laws_szNet.f laws_szArcS.f
  rw [w64 (by omega)]
  by_cases h : l.length ≤ 1048576
  · rw [if_neg (by omega), if_pos h, Option.bind_some, if_neg (by omega)]
  · rw [if_pos (by omega), if_neg h]
    rfl
theorem toIntS_self (l : List Int) (hl : l.length ≤ 1048576) : Ev (fun k => laws_toIntS.f k l) l := by
  refine Ev.congr (G := fun k => laws_toIntS.l0 k l (List.replicate l.length 0) 0) (fun k => by unfold laws_toIntS.f; rw [if_pos (by omega), if_pos (by omega)]; rfl) ?_
  let st : Nat → List Int := fun i => l.take i ++ List.replicate (l.length - i) 0
  have h0 : List.replicate l.length 0 = st 0 := by simp [st]
  rw [h0]
  refine downto (P := fun i => Ev (fun k => laws_toIntS.l0 k l (st i) (i : Int)) l) (n := l.length) ?_ ?_
  · refine Ev.step (G := fun _ => some (st l.length)) (fun k => ?_) (by simp only [st, List.take_length, Nat.sub_self, List.replicate_zero, List.append_nil]; exact Ev.ret _)
    simp only [laws_toIntS.l0]
    rw [if_neg (by omega)]
  · intro i hi h
    have hst : (st i).length = l.length := by simp [st]; omega
    refine Ev.step (G := fun k => laws_toIntS.l0 k l (st (i + 1)) ((i + 1 : Nat) : Int)) (fun k => ?_) h
    simp only [laws_toIntS.l0]
    rw [if_pos (by omega), if_pos (by omega), if_pos (by omega), w64s (by omega), rd_at0 l i hi]
    congr 1
    simp only [Int.toNat_natCast, st]
    rw [List.take_succ_eq_append_getElem hi, List.append_assoc, List.set_append_right _ _ (by simp; omega)]
    congr 1
    simp only [List.length_take, Nat.min_eq_left (Nat.le_of_lt hi), Nat.sub_self, List.singleton_append]
    rw [show l.length - i = (l.length - (i + 1)) + 1 by omega, List.replicate_succ, List.set_cons_zero]
end Go.Proofs.Ytdlaaccnaokdnaa.M
set_option linter.unusedVariables false
namespace Go.Proofs.Ytdlaaccnaokdnaa.M
open Go.RowKit Go.Proofs.Ytdlaaccnaokdnaa.P Go.Proofs.YtdlaaccnaokdnaaV.PrintWords Go.Proofs.YtdlaaccnaokdnaaV.PrintMore
def mk5 (l : List S61) (i m : Int) : List S61 :=
  let y1 := l.set i.toNat ⟨m, (rd_T61 l i).f1, (rd_T61 l i).f2, (rd_T61 l i).f3, (rd_T61 l i).f4⟩
  let y2 := y1.set i.toNat ⟨(rd_T61 y1 i).f0, m + 1, (rd_T61 y1 i).f2, (rd_T61 y1 i).f3, (rd_T61 y1 i).f4⟩
  let y3 := y2.set i.toNat ⟨(rd_T61 y2 i).f0, (rd_T61 y2 i).f1, m + 1 + 1, (rd_T61 y2 i).f3, (rd_T61 y2 i).f4⟩
  let y4 := y3.set i.toNat ⟨(rd_T61 y3 i).f0, (rd_T61 y3 i).f1, (rd_T61 y3 i).f2, m + 1 + 1 + 1, (rd_T61 y3 i).f4⟩
  y4.set i.toNat ⟨(rd_T61 y4 i).f0, (rd_T61 y4 i).f1, (rd_T61 y4 i).f2, (rd_T61 y4 i).f3, m + 1 + 1 + 1 + 1⟩
theorem mk5_set (l : List S61) (i : Nat) (m : Int) (hi : i < l.length) : mk5 l i m = l.set i ⟨m, m + 1, m + 1 + 1, m + 1 + 1 + 1, m + 1 + 1 + 1 + 1⟩ := by
  simp [mk5, rd_T61, List.getD, hi]
/-- arcs that bear the numbers from m on -/
def marksA (m : Int) (n : Nat) : List S61 := (List.range n).map fun (i : Nat) => (⟨m + 5 * (i : Int), m + 5 * (i : Int) + 1, m + 5 * (i : Int) + 1 + 1, m + 5 * (i : Int) + 1 + 1 + 1, m + 5 * (i : Int) + 1 + 1 + 1 + 1⟩ : S61)
theorem marksA_length (m : Int) (n : Nat) : (marksA m n).length = n := by simp [marksA]
theorem markArcS_marks (l : List S61) (m : Int) (hm : 0 ≤ m) (hl : m + 5 * l.length ≤ 4611686018427387904) : Ev (fun k => laws_markArcS.f k l m) (m + 5 * l.length, marksA m l.length) := by
  let st : Nat → List S61 := fun i => marksA m i ++ l.drop i
  have h0 : l = st 0 := by simp [st, marksA]
  show Ev (fun k => laws_markArcS.l0 k l m 0) _
  have hP := downto (P := fun i => Ev (fun k => laws_markArcS.l0 k (st i) (m + 5 * i) (i : Int)) (m + 5 * l.length, marksA m l.length)) (n := l.length) ?_ ?_
  · simpa [← h0] using hP
  · refine Ev.step (G := fun _ => some (m + 5 * l.length, st l.length)) (fun k => ?_) (by simp only [st, List.drop_length, List.append_nil]; exact Ev.ret _)
    simp only [laws_markArcS.l0]
    rw [if_neg (by simp [st, marksA])]
  · intro i hi h
    have hst : (st i).length = l.length := by simp [st, marksA]; omega
    have hx : ∀ (l : List S61) (m : Int) (k : Nat), i < l.length → l.length ≤ 4611686018427387904 → 0 ≤ m → m + 5 ≤ 4611686018427387904 → laws_markArcS.l0 (k + 1) l m (i : Int) = laws_markArcS.l0 k (mk5 l i m) (m + 5) ((i + 1 : Nat) : Int) := by
      intro l m k hi hl h0 h1
      simp only [laws_markArcS.l0]
      rw [if_pos (by omega), if_pos (by omega), w64s (by omega)]
      simp only [Option.bind_some]
      rw [w64 (n := m + 1) (by omega), w64 (n := m + 1 + 1) (by omega), w64 (n := m + 1 + 1 + 1) (by omega), w64 (n := m + 1 + 1 + 1 + 1) (by omega), w64 (n := m + 1 + 1 + 1 + 1 + 1) (by omega), show m + 1 + 1 + 1 + 1 + 1 = m + 5 by omega]
      rfl
    refine Ev.step (G := fun k => laws_markArcS.l0 k (st (i + 1)) (m + 5 * (i + 1 : Nat)) ((i + 1 : Nat) : Int)) (fun k => ?_) h
    rw [hx _ _ _ (by omega) (by omega) (by omega) (by omega), mk5_set _ _ _ (by omega)]
    congr 1
    · simp only [st, marksA]
      rw [List.set_append_right _ _ (by simp), List.range_succ, List.map_append, List.append_assoc]
      congr 1
      simp only [List.length_map, List.length_range, Nat.sub_self]
      rw [List.drop_eq_getElem_cons hi, List.set_cons_zero]
      rfl
    · omega
theorem markNet_marks (n : Int) (l : List S61) (m : Int) (hm : 0 ≤ m) (hl : m + 5 * l.length ≤ 4611686018427387904) : Ev (fun k => laws_markNet.f k n l m) (m + 5 * l.length, marksA m l.length) :=
  Ev.bind (markArcS_marks l m hm hl) (Ev.ret _)
theorem markNet_ex (n : Int) (l : List S61) (m : Int) (hm : 0 ≤ m) (hl : m + 5 * l.length ≤ 4611686018427387904) : ∃ l', Ev (fun k => laws_markNet.f k n l m) (m + 5 * l.length, l') := ⟨_, markNet_marks n l m hm hl⟩

def marks (m : Int) (n : Nat) : List Int := (List.range n).map fun (i : Nat) => m + (i : Int)
theorem marks_length (m : Int) (n : Nat) : (marks m n).length = n := by simp [marks]
theorem markIntS_marks (l : List Int) (m : Int) (hm : 0 ≤ m) (hl : m + l.length ≤ 4611686018427387904) : Ev (fun k => laws_markIntS.f k l m) (m + l.length, marks m l.length) := by
  let st : Nat → List Int := fun i => marks m i ++ l.drop i
  have h0 : l = st 0 := by simp [st, marks]
  show Ev (fun k => laws_markIntS.l0 k l m 0) _
  have hP := downto (P := fun i => Ev (fun k => laws_markIntS.l0 k (st i) (m + i) (i : Int)) (m + l.length, marks m l.length)) (n := l.length) ?_ ?_
  · simpa [← h0] using hP
  · refine Ev.step (G := fun _ => some (m + l.length, st l.length)) (fun k => ?_) (by simp only [st, List.drop_length, List.append_nil]; exact Ev.ret _)
    simp only [laws_markIntS.l0]
    rw [if_neg (by simp [st, marks])]
  · intro i hi h
    have hst : (st i).length = l.length := by simp [st, marks]; omega
    refine Ev.step (G := fun k => laws_markIntS.l0 k (st (i + 1)) (m + (i + 1 : Nat)) ((i + 1 : Nat) : Int)) (fun k => ?_) h
    simp only [laws_markIntS.l0]
    rw [if_pos (by omega), if_pos (by omega), w64s (by omega), w64 (by omega)]
    congr 1
    · simp only [Int.toNat_natCast, st, marks]
      rw [List.set_append_right _ _ (by simp), List.range_succ, List.map_append, List.append_assoc]
      congr 1
      simp only [List.length_map, List.length_range, Nat.sub_self]
      rw [List.drop_eq_getElem_cons hi, List.set_cons_zero]
      rfl
    · omega
theorem heldIntS_marks (m : Int) (n : Nat) (hm : 0 ≤ m) (hl : m + n ≤ 4611686018427387904) : Ev (fun k => laws_heldIntS.f k (marks m n) m) (m + n) := by
  show Ev (fun k => laws_heldIntS.l0 k (marks m n) m 0) _
  have hP := downto (P := fun i => Ev (fun k => laws_heldIntS.l0 k (marks m n) (m + i) (i : Int)) (m + n)) (n := n) ?_ ?_
  · simpa using hP
  · refine Ev.step (G := fun _ => some (m + n)) (fun k => ?_) (Ev.ret _)
    simp only [laws_heldIntS.l0]
    rw [if_neg (by simp [marks])]
  · intro i hi h
    refine Ev.step (G := fun k => laws_heldIntS.l0 k (marks m n) (m + (i + 1 : Nat)) ((i + 1 : Nat) : Int)) (fun k => ?_) h
    simp only [laws_heldIntS.l0]
    rw [if_pos (by rw [marks_length]; omega), if_pos (by omega), w64s (by omega), w64 (by omega), if_pos (by rw [rd_at0 _ i (by rw [marks_length]; exact hi)]; simp [marks])]
    congr 1
    omega
end Go.Proofs.Ytdlaaccnaokdnaa.M
