/- FnManyAll is true of every code: all ways from one list to another are the nearest of each, and the ways back over the net turned round. -/
import Derived.Test.YtjmpngfgfddpaaaPFLawsFnmanyall
import Derived.Test.YtjmpngfgfddpaaaMAll
import Derived.Test.YtjmpngfgfddpaaaMNearAll
import Derived.Test.YtjmpngfgfddpaaaMNetBack
import Derived.Test.YtjmpngfgfddpaaaMDrawA
import Derived.Test.YtjmpngfgfddpaaaMWk
set_option linter.unusedVariables false
namespace Go.Proofs.Ytjmpngfgfddpaaa.Pure
open Go.RowKit Go.Proofs.Ytjmpngfgfddpaaa.P Go.Proofs.Ytjmpngfgfddpaaa.M
open Go.Proofs.YtjmpngfgfddpaaaV.PrintWords (rd)
open Go.Proofs.YtjmpngfgfddpaaaV.PrintMore

theorem gridL_rows (T : List (List Int)) (xs ys : List Int) (n : Nat) (h : ys.length ≤ 8) : ∀ r ∈ gridL T xs ys n, r.length ≤ 4611686018427387904 := by
  intro r hr
  unfold gridL at hr
  obtain ⟨a, _, rfl⟩ := List.mem_map.1 hr
  rw [rowL_len]
  omega
theorem FnManyAll : laws_FnManyAll.Pure := by
  intro c _ hl hw
  by_cases hC : (c.length : Int) > 1048576
  · exact ⟨0, by unfold laws_FnManyAll.f; rw [if_pos hC]⟩
  apply Ev.get
  unfold laws_FnManyAll.f
  refine Ev.neg hC ?_
  obtain ⟨n, l, xs, ys, hd, l0, x0, y0⟩ := drawManyAll_ev (by omega) hw
  cases h : (netOkB n l && okL n xs && okL n ys) with
  | false =>
    have hs := spec_manyAll_bad (nodes := n) (l := l) (xs := xs) (ys := ys) (by omega) (by omega) (by omega) h
    have hk := wkGrid_self [] (by simp) (by simp)
    refine Ev.bind hd (Ev.bind (impl_manyAll_bad h) (Ev.bind hs (Ev.bind hk (Ev.pos rfl ?_))))
    refine Ev.step (fun k => by simp only [laws_FnManyAll.j0]; rfl) (Ev.pos (by first | rfl | trivial) ?_)
    exact Ev.bind hs (Ev.bind hk (Ev.ret _))
  | true =>
    simp only [Bool.and_eq_true] at h
    obtain ⟨⟨h1, h2⟩, h3⟩ := h
    obtain ⟨n1, n2, n3⟩ := Good.nodes h1
    obtain ⟨x1, x2⟩ := okL_len h2
    obtain ⟨y1, y2⟩ := okL_len h3
    have hrx : ∀ i : Nat, i < xs.length → 0 ≤ rd xs (i : Int) ∧ rd xs (i : Int) < n := fun i hi => all_rd ⟨n1, n2⟩ x1 hi
    have hry : ∀ i : Nat, i < ys.length → 0 ≤ rd ys (i : Int) ∧ rd ys (i : Int) < n := fun i hi => all_rd ⟨n1, n2⟩ y1 hi
    obtain ⟨T, e1, e2, e3⟩ := tab_ev h1
    have hb1 : netOkB n (l.map swapA) = true := (netOk_swap n l).trans h1
    have hb2 : okL n ys = true := h3
    obtain ⟨B, f1, f2, f3⟩ := tab_ev hb1
    have hS := spec_manyAll_ok h1 h2 h3 e2 (fun i a b => (e3 i a b).2)
    have hI := impl_manyAll_ok h1 h2 h3 e2 (fun i a b => (e3 i a b).1)
    have hJ := impl_manyAll_ok hb1 h3 h2 f2 (fun i a b => (f3 i a b).1)
    have hlen := gridL_len T xs ys xs.length
    have hlen2 := gridL_len B ys xs ys.length
    have hk := wkGrid_self (gridL T xs ys xs.length) (by omega) (gridL_rows T xs ys _ y2)
    refine Ev.bind hd (Ev.bind hI (Ev.bind hS (Ev.bind hk (Ev.pos rfl ?_))))
    by_cases hx0 : xs.length = 0
    · have hz : (((gridL T xs ys xs.length).length : Int) == 0) = true := by rw [hlen, hx0]; rfl
      simp only
      rw [hz]
      refine Ev.step (fun k => by simp only [laws_FnManyAll.j0]; rfl) (Ev.pos (by first | rfl | trivial) ?_)
      exact Ev.bind hS (Ev.bind hk (Ev.ret _))
    have hz : (((gridL T xs ys xs.length).length : Int) == 0) = false := by rw [hlen]; exact beq_eq_false_iff_ne.2 (by omega)
    simp only
    rw [hz]
    refine Ev.step (fun k => by simp only [laws_FnManyAll.j0]; rfl) (Ev.neg (by simp) (Ev.bind (netBack_ev h1) (Ev.bind hJ ?_)))
    have hrow : ∀ i : Nat, i < xs.length → rd_L5 (gridL T xs ys xs.length) (i : Int) = rowL (rd_L5 T (rd xs (i : Int))) ys ys.length := fun i hi => gridL_row T xs ys hi
    have hrow2 : ∀ i : Nat, i < ys.length → rd_L5 (gridL B ys xs ys.length) (i : Int) = rowL (rd_L5 B (rd ys (i : Int))) xs xs.length := fun i hi => gridL_row B ys xs hi
    generalize gridL T xs ys xs.length = G at hlen hrow
    generalize gridL B ys xs ys.length = H at hlen2 hrow2
    refine downto (P := fun i => Ev (fun k => laws_FnManyAll.l0 k xs ys G H (i : Int) n l) true) (n := xs.length) ?_ ?_
    · refine Ev.step (G := fun _ => some true) (fun k => ?_) (Ev.ret _)
      simp only [laws_FnManyAll.l0]
      rw [if_neg (by omega), hlen]
      simp
    · intro i hi hnext
      obtain ⟨r0, r1⟩ := hrx i hi
      refine Ev.step (fun k => by simp only [laws_FnManyAll.l0]; rw [if_pos (show (i : Int) < xs.length by omega), if_pos (by omega)]) ?_
      have hin : inB n (rd xs (i : Int)) = true := (inB_iff ⟨n1, n2⟩).2 ⟨r0, r1⟩
      refine Ev.bind (nearAll_ev h1 hin (e3 _ r0 r1).1) ?_
      have hDl := (e2.row (rd xs (i : Int)) r0 (by omega)).len
      refine downto (P := fun j => Ev (fun k => laws_FnManyAll.l1 k xs ys G H (i : Int) (rd_L5 T (rd xs (i : Int))) (j : Int) n l) true) (n := ys.length) ?_ ?_
      · refine Ev.step (fun k => ?_) hnext
        simp only [laws_FnManyAll.l1]
        rw [if_neg (by omega), w64s (by omega)]
      · intro j hj hn
        obtain ⟨s0, s1⟩ := hry j hj
        have a1 := hrow i hi
        have a2 := hrow2 j hj
        have a3 := rowL_at (rd_L5 T (rd xs (i : Int))) ys hj
        have a4 := rowL_at (rd_L5 B (rd ys (j : Int))) xs hi
        have a5 := rowL_len (rd_L5 T (rd xs (i : Int))) ys ys.length
        have a6 := rowL_len (rd_L5 B (rd ys (j : Int))) xs xs.length
        have a7 : rd (rd_L5 T (rd xs (i : Int))) (rd ys (j : Int)) = rd (rd_L5 B (rd ys (j : Int))) (rd xs (i : Int)) := dist_rev (e2.row _ r0 (by omega)) (f2.row _ s0 (by omega)) ⟨r0, by omega⟩ ⟨s0, by omega⟩
        refine Ev.step (fun k => ?_) hn
        simp only [laws_FnManyAll.l1]
        rw [a1, a2, a3, a4, a5, a6, if_pos (by omega), if_pos (by omega), if_pos (by omega), if_pos (by omega), if_pos (by omega), if_pos s0, if_pos (by omega), if_pos rfl, if_pos (by omega), if_pos (by omega), if_pos a7.symm, w64s (by omega)]
end Go.Proofs.Ytjmpngfgfddpaaa.Pure
