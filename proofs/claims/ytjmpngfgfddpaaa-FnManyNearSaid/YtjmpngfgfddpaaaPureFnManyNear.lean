/- FnManyNear is true of every code: of a drawn net, a node and a list, none of the list is nearer than the one that is told. -/
import Derived.Test.YtjmpngfgfddpaaaPFLawsFnmanynear
import Derived.Test.YtjmpngfgfddpaaaMMany
import Derived.Test.YtjmpngfgfddpaaaMDrawN
set_option linter.unusedVariables false
namespace Go.Proofs.Ytjmpngfgfddpaaa.Pure
open Go.RowKit Go.Proofs.Ytjmpngfgfddpaaa.P Go.Proofs.Ytjmpngfgfddpaaa.M
open Go.Proofs.YtjmpngfgfddpaaaV.PrintWords (rd)

theorem nearTo_prop {d xs : List Int} (hd : ∀ i : Nat, i < xs.length → 0 ≤ rd d (rd xs (i : Int)) ∧ rd d (rd xs (i : Int)) ≤ 99999) : ∀ i : Nat, i ≤ xs.length →
    (((nearTo d xs i).1 = -1 ∧ (nearTo d xs i).2 = 99999) ∨ ∃ j : Nat, j < i ∧ (nearTo d xs i).1 = j ∧ (nearTo d xs i).2 = rd d (rd xs (j : Int)) ∧ (nearTo d xs i).2 < 99999) ∧
    (∀ j : Nat, j < i → (nearTo d xs i).2 ≤ rd d (rd xs (j : Int))) ∧ (∀ j : Nat, j < i → (j : Int) < (nearTo d xs i).1 → rd d (rd xs (j : Int)) ≠ (nearTo d xs i).2)
  | 0, _ => ⟨.inl ⟨rfl, rfl⟩, fun j hj => by omega, fun j hj => by omega⟩
  | i + 1, hi => by
    obtain ⟨h1, h2, h3⟩ := nearTo_prop hd i (by omega)
    have hdi := hd i (by omega)
    have hlast : ∀ j : Nat, j < i + 1 → j < i ∨ j = i := fun j hj => by omega
    rw [nearTo_succ]
    unfold nearStep
    generalize nearTo d xs i = st at h1 h2 h3
    by_cases hc : rd d (rd xs (i : Int)) < st.2
    · rw [if_pos hc]
      refine ⟨.inr ⟨i, by omega, rfl, rfl, ?_⟩, fun j hj => ?_, fun j hj hw => ?_⟩
      · rcases h1 with ⟨_, e⟩ | ⟨j, _, _, _, e⟩ <;> simp only <;> omega
      · rcases hlast j hj with h | rfl
        · have := h2 j h
          simp only
          omega
        · exact Int.le_refl _
      · rcases hlast j hj with h | rfl
        · have := h2 j h
          simp only
          omega
        · simp only at hw
          omega
    · rw [if_neg hc]
      refine ⟨?_, fun j hj => ?_, fun j hj hw => ?_⟩
      · rcases h1 with e | ⟨j, e1, e2⟩
        · exact .inl e
        · exact .inr ⟨j, by omega, e2⟩
      · rcases hlast j hj with h | rfl
        · exact h2 j h
        · omega
      · rcases hlast j hj with h | rfl
        · exact h3 j h hw
        · rcases h1 with ⟨e, _⟩ | ⟨j', e1, e2, _⟩ <;> omega
theorem FnManyNear : laws_FnManyNear.Pure := by
  intro c _ hl hw
  by_cases hC : (c.length : Int) > 1048576
  · exact ⟨0, by unfold laws_FnManyNear.f; rw [if_pos hC]⟩
  apply Ev.get
  unfold laws_FnManyNear.f
  refine Ev.neg hC ?_
  obtain ⟨n, l, s, xs, hd, l0, x0⟩ := drawManyNear_ev (by omega) hw
  have hll : l.length ≤ 1048576 := by omega
  have hxl : xs.length ≤ 1048576 := by omega
  cases h : (netOkB n l && okL n xs && inB n s) with
  | false =>
    refine Ev.bind hd (Ev.bind (impl_manyNear_bad h) (Ev.bind (spec_manyNear_bad hll hxl h) (Ev.pos rfl (Ev.pos rfl ?_))))
    exact Ev.step (G := fun _ => some true) (fun k => by simp [laws_FnManyNear.j0]) (Ev.ret _)
  | true =>
    simp only [Bool.and_eq_true] at h
    obtain ⟨⟨h1, h2⟩, h3⟩ := h
    obtain ⟨n1, n2, n3⟩ := Good.nodes h1
    obtain ⟨x1, x2⟩ := okL_len h2
    obtain ⟨D, e1, e2, e3⟩ := from_dist h1 ((inB_iff ⟨n1, n2⟩).1 h3)
    have hr : ∀ i : Nat, i < xs.length → 0 ≤ rd xs (i : Int) ∧ rd xs (i : Int) < n := fun i hi => all_rd ⟨n1, n2⟩ x1 hi
    have hdv : ∀ i : Nat, i < xs.length → 0 ≤ rd D (rd xs (i : Int)) ∧ rd D (rd xs (i : Int)) ≤ 99999 := fun i hi => by
      have := hr i hi
      have := e3.leFar (y := rd xs (i : Int)) (by omega) (by omega)
      omega
    refine Ev.bind hd (Ev.bind (impl_manyNear_ok h1 h2 h3 e1 e3.len) (Ev.bind (spec_manyNear_ok h1 h2 h3 e2 e3.len) (Ev.pos rfl (Ev.pos rfl ?_))))
    obtain ⟨p1, p2, p3⟩ := nearTo_prop hdv xs.length (Nat.le_refl _)
    have hlen := e3.len
    have hge : ¬ (nearTo D xs xs.length).2 < 0 := by
      rcases p1 with ⟨_, e⟩ | ⟨j, j1, _, e, _⟩
      · omega
      · have := hdv j j1
        omega
    refine Ev.step (fun k => by simp only [laws_FnManyNear.j0]; rfl) ?_
    refine Ev.neg (by simpa using hge) (Ev.bind (nearAll_ev h1 h3 e1) ?_)
    generalize nearTo D xs xs.length = st at p1 p2 p3
    obtain ⟨w, q⟩ := st
    simp only at p1 p2 p3 ⊢
    refine downto (P := fun i => Ev (fun k => laws_FnManyNear.l0 k xs w q D (i : Int)) true) (n := xs.length) ?_ ?_
    · refine Ev.step (G := fun _ => some true) (fun k => ?_) (Ev.ret _)
      simp only [laws_FnManyNear.l0]
      rw [if_neg (by omega)]
      rcases p1 with ⟨ew, eq⟩ | ⟨j, j1, ew, eq, elt⟩
      · rw [if_pos (by omega), if_pos (by omega)]
      · have hj := hr j j1
        subst ew
        rw [if_neg (by omega), if_pos (by omega), if_pos (by omega), if_pos (by omega), if_pos hj.1, if_pos (by omega), eq]
        simp
    · intro i hi hnext
      have hi' := hr i hi
      have q2 := p2 i hi
      have q3 := p3 i hi
      clear p1
      refine Ev.step (fun k => ?_) hnext
      simp only [laws_FnManyNear.l0]
      rw [if_pos (by omega), if_pos (by omega), if_pos hi'.1, if_pos (by omega), if_neg (Int.not_lt.2 q2), w64s (by omega)]
      by_cases hiw : (i : Int) < w
      · rw [if_pos hiw, if_neg (q3 hiw)]
      · rw [if_neg hiw]
end Go.Proofs.Ytjmpngfgfddpaaa.Pure
