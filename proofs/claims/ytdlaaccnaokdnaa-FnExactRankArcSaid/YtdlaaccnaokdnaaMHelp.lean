/- What the laws' own helpers come to: eq.., to.., mark.., held.. of ints, arcs and nets. -/
import Derived.Test.YtdlaaccnaokdnaaMEv
import Derived.Test.YtdlaaccnaokdnaaGLaws
set_option linter.unusedVariables false
namespace Go.Proofs.Ytdlaaccnaokdnaa.M
open Go.RowKit Go.Proofs.Ytdlaaccnaokdnaa.P Go.Proofs.YtdlaaccnaokdnaaV.PrintWords Go.Proofs.YtdlaaccnaokdnaaV.PrintMore

theorem eqIntS_self (l : List Int) (hl : l.length ≤ 4611686018427387904) : Ev (fun k => laws_eqIntS.f k l l) true := by
  refine Ev.congr (G := fun k => laws_eqIntS.l0 k l l 0) (fun k => by unfold laws_eqIntS.f; rw [if_pos rfl]) ?_
  refine downto (P := fun i => Ev (fun k => laws_eqIntS.l0 k l l (i : Int)) true) (n := l.length) ?_ ?_
  · refine Ev.step (G := fun _ => some true) (fun k => ?_) (Ev.ret _)
    simp only [laws_eqIntS.l0]
    rw [if_neg (by omega)]
  · intro i hi h
    refine Ev.step (fun k => ?_) h
    simp only [laws_eqIntS.l0, if_true]
    rw [if_pos (by omega), if_pos (by omega), if_pos (by omega), w64s (by omega)]

def toA (x : S103) : S61 := ⟨x.f0, x.f1, x.f2, x.f3, x.f4⟩
theorem toArcS_map (l : List S103) (hl : l.length ≤ 1048576) : Ev (fun k => laws_toArcS.f k l) (l.map toA) := by
  refine Ev.congr (G := fun k => laws_toArcS.l0 k l (List.replicate l.length z61) 0) (fun k => by unfold laws_toArcS.f; rw [if_pos (by omega), if_pos (by omega)]; rfl) ?_
  let st : Nat → List S61 := fun i => (l.take i).map toA ++ List.replicate (l.length - i) z61
  have h0 : List.replicate l.length z61 = st 0 := by simp [st]
  rw [h0]
  refine downto (P := fun i => Ev (fun k => laws_toArcS.l0 k l (st i) (i : Int)) (l.map toA)) (n := l.length) ?_ ?_
  · refine Ev.step (G := fun _ => some (st l.length)) (fun k => ?_) (by simp only [st, List.take_length, Nat.sub_self, List.replicate_zero, List.append_nil]; exact Ev.ret _)
    simp only [laws_toArcS.l0]
    rw [if_neg (by omega)]
  · intro i hi h
    have hst : (st i).length = l.length := by simp [st]; omega
    refine Ev.step (G := fun k => laws_toArcS.l0 k l (st (i + 1)) ((i + 1 : Nat) : Int)) (fun k => ?_) h
    simp only [laws_toArcS.l0, laws_toArc.f, Option.bind_some]
    rw [if_pos (by omega), if_pos (by omega), if_pos (by omega), w64s (by omega), rd120_at l i hi]
    congr 1
    simp only [Int.toNat_natCast, st]
    rw [List.take_succ_eq_append_getElem hi, List.map_append, List.append_assoc, List.set_append_right _ _ (by simp; omega)]
    congr 1
    simp only [List.length_map, List.length_take, Nat.min_eq_left (Nat.le_of_lt hi), Nat.sub_self, List.map_cons, List.map_nil, List.singleton_append]
    rw [show l.length - i = (l.length - (i + 1)) + 1 by omega, List.replicate_succ, List.set_cons_zero]
    rfl
theorem toNet_map (n : Int) (l : List S103) (hl : l.length ≤ 1048576) : Ev (fun k => laws_toNet.f k n l) (n, l.map toA) :=
  Ev.bind (toArcS_map l hl) (Ev.ret _)

theorem eqArcS_self (l : List S61) (hl : l.length ≤ 4611686018427387904) : Ev (fun k => laws_eqArcS.f k l l) true := by
  refine Ev.congr (G := fun k => laws_eqArcS.l0 k l l 0) (fun k => by unfold laws_eqArcS.f; rw [if_pos rfl]) ?_
  refine downto (P := fun i => Ev (fun k => laws_eqArcS.l0 k l l (i : Int)) true) (n := l.length) ?_ ?_
  · refine Ev.step (G := fun _ => some true) (fun k => ?_) (Ev.ret _)
    simp only [laws_eqArcS.l0]
    rw [if_neg (by omega)]
  · intro i hi h
    refine Ev.step (fun k => ?_) h
    simp only [laws_eqArcS.l0, laws_eqArc.f, if_true, Option.bind_some]
    rw [if_pos (by omega), if_pos (by omega), if_pos (by omega), w64s (by omega)]
theorem eqNet_self (n : Int) (l : List S61) (hl : l.length ≤ 4611686018427387904) : Ev (fun k => laws_eqNet.f k n l n l) true := by
  refine Ev.congr (G := fun k => (laws_eqArcS.f k l l).bind fun t => if t = true then some true else some false) (fun k => by unfold laws_eqNet.f; rw [if_pos rfl]) ?_
  exact Ev.bind (eqArcS_self l hl) (Ev.ret _)

theorem szNet_val (n : Int) (l : List S103) (hl : l.length ≤ 9223372036854775807) : laws_szNet.f n l 1048576 = some (if l.length ≤ 1048576 then 1048576 - (l.length : Int) else -1) := by
  unfold laws_szNet.f laws_szArcS.f
  rw [w64 (by omega)]
  by_cases h : l.length ≤ 1048576
  · rw [if_neg (by omega), if_pos h, Option.bind_some, if_neg (by omega)]
  · rw [if_pos (by omega), if_neg h]
    rfl
theorem toIntS_self (l : List Int) (hl : l.length ≤ 1048576) : Ev (fun k => laws_toIntS.f k l) l := by
  refine Ev.congr (G := fun k => laws_toIntS.l0 k l (List.replicate l.length 0) 0) (fun k => by unfold laws_toIntS.f; rw [if_pos (by omega), if_pos (by omega)]; rfl) ?_
  let st : Nat → List Int := fun i => l.take i ++ List.replicate (l.length - i) 0
  have h0 : List.replicate l.length 0 = st 0 := by simp [st]
  rw [h0]
  refine downto (P := fun i => Ev (fun k => laws_toIntS.l0 k l (st i) (i : Int)) l) (n := l.length) ?_ ?_
  · refine Ev.step (G := fun _ => some (st l.length)) (fun k => ?_) (by simp only [st, List.take_length, Nat.sub_self, List.replicate_zero, List.append_nil]; exact Ev.ret _)
    simp only [laws_toIntS.l0]
    rw [if_neg (by omega)]
  · intro i hi h
    have hst : (st i).length = l.length := by simp [st]; omega
    refine Ev.step (G := fun k => laws_toIntS.l0 k l (st (i + 1)) ((i + 1 : Nat) : Int)) (fun k => ?_) h
    simp only [laws_toIntS.l0]
    rw [if_pos (by omega), if_pos (by omega), if_pos (by omega), w64s (by omega), rd_at0 l i hi]
    congr 1
    simp only [Int.toNat_natCast, st]
    rw [List.take_succ_eq_append_getElem hi, List.append_assoc, List.set_append_right _ _ (by simp; omega)]
    congr 1
    simp only [List.length_take, Nat.min_eq_left (Nat.le_of_lt hi), Nat.sub_self, List.singleton_append]
    rw [show l.length - i = (l.length - (i + 1)) + 1 by omega, List.replicate_succ, List.set_cons_zero]
end Go.Proofs.Ytdlaaccnaokdnaa.M
