/- What the laws' own helpers come to: eq.., to.. of numbers, connections and plans. -/
import Derived.Test.YtcklifkbodmoaaaMEv
import Derived.Test.YtcklifkbodmoaaaGLaws
import Derived.Test.YtcklifkbodmoaaaGPLaws
set_option linter.unusedVariables false
namespace Go.Proofs.Ytcklifkbodmoaaa.M
open Go.RowKit Go.Proofs.Ytcklifkbodmoaaa.P Go.Proofs.YtcklifkbodmoaaaV.PrintWords Go.Proofs.YtcklifkbodmoaaaV.PrintMore
theorem rdT_laws_at (l : List S99) (j : Nat) (hj : j < l.length) : rd_T99 l (j : Int) = l[j] := by
  simp [rd_T99, List.getD, hj]
theorem rdT_conn_at (l : List S32) (j : Nat) (hj : j < l.length) : rd_T32 l (j : Int) = l[j] := by
  simp [rd_T32, List.getD, hj]

theorem eqIntS_self (l : List Int) (hl : l.length ≤ 4611686018427387904) : Ev (fun k => laws_eqIntS.f k l l) true := by
  refine Ev.congr (G := fun k => laws_eqIntS.l0 k l l 0) (fun k => by unfold laws_eqIntS.f; rw [if_pos rfl]) ?_
  refine downto (P := fun i => Ev (fun k => laws_eqIntS.l0 k l l (i : Int)) true) (n := l.length) ?_ ?_
  · refine Ev.step (G := fun _ => some true) (fun k => ?_) (Ev.ret _)
    simp only [laws_eqIntS.l0]
    rw [if_neg (by omega)]
  · intro i hi h
    refine Ev.step (fun k => ?_) h
    simp only [laws_eqIntS.l0, if_true]
    rw [if_pos (by omega), if_pos (by omega), if_pos (by omega), w64s (by omega)]

def toA (x : S99) : S32 := ⟨x.f0, x.f1, x.f2, x.f3, x.f4⟩
theorem toConnS_map (l : List S99) (hl : l.length ≤ 1048576) : Ev (fun k => laws_toConnS.f k l) (l.map toA) := by
  refine Ev.congr (G := fun k => laws_toConnS.l0 k l (List.replicate l.length z32) 0) (fun k => by unfold laws_toConnS.f; rw [if_pos (by omega), if_pos (by omega)]; rfl) ?_
  let st : Nat → List S32 := fun i => (l.take i).map toA ++ List.replicate (l.length - i) z32
  have h0 : List.replicate l.length z32 = st 0 := by simp [st]
  rw [h0]
  refine downto (P := fun i => Ev (fun k => laws_toConnS.l0 k l (st i) (i : Int)) (l.map toA)) (n := l.length) ?_ ?_
  · refine Ev.step (G := fun _ => some (st l.length)) (fun k => ?_) (by simp only [st, List.take_length, Nat.sub_self, List.replicate_zero, List.append_nil]; exact Ev.ret _)
    simp only [laws_toConnS.l0]
    rw [if_neg (by omega)]
  · intro i hi h
    have hst : (st i).length = l.length := by simp [st]; omega
    refine Ev.step (G := fun k => laws_toConnS.l0 k l (st (i + 1)) ((i + 1 : Nat) : Int)) (fun k => ?_) h
    simp only [laws_toConnS.l0, laws_toConn.f, Option.bind_some]
    rw [if_pos (by omega), if_pos (by omega), if_pos (by omega), w64s (by omega), rdT_laws_at l i hi]
    congr 1
    simp only [Int.toNat_natCast, st]
    rw [List.take_succ_eq_append_getElem hi, List.map_append, List.append_assoc, List.set_append_right _ _ (by simp; omega)]
    congr 1
    simp only [List.length_map, List.length_take, Nat.min_eq_left (Nat.le_of_lt hi), Nat.sub_self, List.map_cons, List.map_nil, List.singleton_append]
    rw [show l.length - i = (l.length - (i + 1)) + 1 by omega, List.replicate_succ, List.set_cons_zero]
    rfl
theorem toPlan_map (n ch : Int) (l : List S99) (hl : l.length ≤ 1048576) : Ev (fun k => laws_toPlan.f k n ch l) (n, ch, l.map toA) :=
  Ev.bind (toConnS_map l hl) (Ev.ret _)

theorem eqConnS_self (l : List S32) (hl : l.length ≤ 4611686018427387904) : Ev (fun k => laws_eqConnS.f k l l) true := by
  refine Ev.congr (G := fun k => laws_eqConnS.l0 k l l 0) (fun k => by unfold laws_eqConnS.f; rw [if_pos rfl]) ?_
  refine downto (P := fun i => Ev (fun k => laws_eqConnS.l0 k l l (i : Int)) true) (n := l.length) ?_ ?_
  · refine Ev.step (G := fun _ => some true) (fun k => ?_) (Ev.ret _)
    simp only [laws_eqConnS.l0]
    rw [if_neg (by omega)]
  · intro i hi h
    refine Ev.step (fun k => ?_) h
    simp only [laws_eqConnS.l0, laws_eqConn.f, if_true, Option.bind_some]
    rw [if_pos (by omega), if_pos (by omega), if_pos (by omega), w64s (by omega)]
theorem eqPlan_self (n ch : Int) (l : List S32) (hl : l.length ≤ 4611686018427387904) : Ev (fun k => laws_eqPlan.f k n ch l n ch l) true := by
  refine Ev.congr (G := fun k => (laws_eqConnS.f k l l).bind fun t => if t = true then some true else some false) (fun k => by unfold laws_eqPlan.f; rw [if_pos rfl, if_pos rfl]) ?_
  exact Ev.bind (eqConnS_self l hl) (Ev.ret _)

theorem szPlan_val (n ch : Int) (l : List S99) (hl : l.length ≤ 9223372036854775807) : laws_szPlan.f n ch l 1048576 = some (if l.length ≤ 1048576 then 1048576 - (l.length : Int) else -1) := by
  unfold laws_szPlan.f laws_szConnS.f
  rw [w64 (by omega)]
  by_cases h : l.length ≤ 1048576
  · rw [if_neg (by omega), if_pos h, Option.bind_some, if_neg (by omega)]
  · rw [if_pos (by omega), if_neg h]
    rfl
end Go.Proofs.Ytcklifkbodmoaaa.M
