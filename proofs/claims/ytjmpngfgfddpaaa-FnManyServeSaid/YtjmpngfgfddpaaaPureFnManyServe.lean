/- FnManyServe is true of every code: who serves a node is the nearest of the list in the net turned round. -/
import Derived.Test.YtjmpngfgfddpaaaPFLawsFnmanyserve
import Derived.Test.YtjmpngfgfddpaaaMServeN
import Derived.Test.YtjmpngfgfddpaaaMDrawS
import Derived.Test.YtjmpngfgfddpaaaMWk
set_option linter.unusedVariables false
namespace Go.Proofs.Ytjmpngfgfddpaaa.Pure
open Go.RowKit Go.Proofs.Ytjmpngfgfddpaaa.P Go.Proofs.Ytjmpngfgfddpaaa.M
open Go.Proofs.YtjmpngfgfddpaaaV.PrintWords (rd)

theorem FnManyServe : laws_FnManyServe.Pure := by
  intro c _ hl hw
  by_cases hC : (c.length : Int) > 1048576
  · exact ⟨0, by unfold laws_FnManyServe.f; rw [if_pos hC]⟩
  apply Ev.get
  unfold laws_FnManyServe.f
  refine Ev.neg hC ?_
  obtain ⟨n, l, xs, hd, l0, x0⟩ := drawManyServe_ev (by omega) hw
  cases h : (netOkB n l && okL n xs) with
  | false =>
    have hs := spec_manyServe_bad (nodes := n) (l := l) (xs := xs) (by omega) (by omega) h
    have hk := wkInts_self [] (by simp)
    refine Ev.bind hd (Ev.bind (impl_manyServe_bad h) (Ev.bind hs (Ev.bind hk (Ev.pos rfl ?_))))
    refine Ev.step (fun k => by simp only [laws_FnManyServe.j0]; rfl) (Ev.pos (by rfl) ?_)
    exact Ev.bind hs (Ev.bind hk (Ev.ret _))
  | true =>
    simp only [Bool.and_eq_true] at h
    obtain ⟨h1, h2⟩ := h
    obtain ⟨n1, n2, n3⟩ := Good.nodes h1
    obtain ⟨x1, x2⟩ := okL_len h2
    obtain ⟨T, e1, e2, e3⟩ := tab_ev h1
    have hS := spec_manyServe_ok h1 h2 e2 (fun i a b => (e3 i a b).2)
    have hlen := serveL_len T n.toNat xs n.toNat
    have hk := wkInts_self (serveL T n.toNat xs n.toNat) (by omega)
    have hat : ∀ v : Nat, v < n.toNat → rd (serveL T n.toNat xs n.toNat) (v : Int) = (nearTo (col T n.toNat (v : Int)) xs xs.length).1 := fun v hv => serveL_at hv
    refine Ev.bind hd (Ev.bind (impl_manyServe_ok h1 h2 e1 e2) (Ev.bind hS (Ev.bind hk (Ev.pos rfl ?_))))
    generalize serveL T n.toNat xs n.toNat = R at hlen hat
    have hz : ((R.length : Int) == 0) = false := beq_eq_false_iff_ne.2 (by omega)
    simp only
    rw [hz]
    refine Ev.step (fun k => by simp only [laws_FnManyServe.j0]; rfl) (Ev.neg (by simp) (Ev.bind (netBackS_ev h1) ?_))
    have hb1 : netOkB n (l.map swapA) = true := (netOk_swap n l).trans h1
    simp only
    have hP := downto (P := fun v => Ev (fun k => laws_FnManyServe.l0 k xs R (v : Int) n l n (l.map swapA)) true) (n := n.toNat) ?_ ?_
    · simpa using hP
    · refine Ev.step (G := fun _ => some true) (fun k => ?_) (Ev.ret _)
      simp only [laws_FnManyServe.l0]
      rw [if_neg (by omega)]
      have : (R.length : Int) = n := by omega
      simp [this]
    · intro v hv hnext
      have hin : inB n (v : Int) = true := (inB_iff ⟨n1, n2⟩).2 ⟨by omega, by omega⟩
      obtain ⟨D, f1, f2, f3⟩ := from_dist hb1 (s := (v : Int)) ⟨by omega, by omega⟩
      have hc := col_back e2 (v := (v : Int)) ⟨by omega, by omega⟩ f3
      have hv2 := hat v hv
      rw [hc] at hv2
      refine Ev.step (fun k => by simp only [laws_FnManyServe.l0]; rw [if_pos (show (v : Int) < n by omega)]) ?_
      refine Ev.bind (impl_manyNearS_ok hb1 h2 hin f1 f3.len) ?_
      rw [w64s (by omega)]
      exact Ev.pos (by omega) (Ev.pos (by omega) (Ev.pos hv2.symm hnext))
end Go.Proofs.Ytjmpngfgfddpaaa.Pure
