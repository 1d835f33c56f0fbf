/- What the law of late trips needs: sums over connections laid in one by one, a trip that is late by nothing, the drawn timetable. -/
import Derived.Test.YtcklifkbodmoaaaMLate
import Derived.Test.YtcklifkbodmoaaaMPlanLaw
import Derived.Test.YtcklifkbodmoaaaHPlanLate
import Derived.Test.YtcklifkbodmoaaaPFSpecDrawplanlate
import Derived.Test.YtcklifkbodmoaaaPFLawsWkplan
set_option linter.unusedVariables false
namespace Go.Proofs.Ytcklifkbodmoaaa.M
open Go.RowKit Go.Proofs.Ytcklifkbodmoaaa.P Go.Proofs.YtcklifkbodmoaaaV.PrintWords Go.Proofs.YtcklifkbodmoaaaV.PrintMore
theorem drawPlanLate_ev {c : List Int} (hl : c.length ≤ 1048576) (hw : ∀ x ∈ c, (Lit.int .u8 x).wf = true) : ∃ (s ch : Int) (l : List S32) (trip late : Int), Ev (fun k => spec_DrawPlanLate.f k c) (s, ch, l, trip, late) ∧ l.length ≤ 15 := by
  obtain ⟨b, e0, hb⟩ := open_ev hl hw
  obtain ⟨s, ch, l, p, e1, s0, s1, l0, p0, p1⟩ := anyPlan_ev hb
  obtain ⟨r1, e2, _, hr1⟩ := pick_ev (b := b) (p := p) 7 hb p0 (by omega)
  obtain ⟨r2, e3, hr2⟩ := one_ev (b := b) (p := p + 1) [0, 1, 5, 30, 150, 200] hb (by omega) (by omega) (by simp)
  refine ⟨s, ch, l, r1, r2, ?_, l0⟩
  unfold spec_DrawPlanLate.f
  rw [e0]
  simp only [Option.bind_some]
  exact Ev.bind e1 (Ev.bind e2 (Ev.bind e3 (Ev.ret _)))
theorem wkPlan_self (n ch : Int) (l : List S32) (hl : l.length ≤ 4611686018427387904) : Ev (fun k => laws_wkPlan.f k n ch l n ch l) true := by
  unfold laws_wkPlan.f
  refine Ev.pos rfl (Ev.pos rfl ?_)
  refine Ev.step (fun k => by simp only [laws_wkPlan.j0]; rfl) (Ev.neg (by simp) ?_)
  refine downto (P := fun j => Ev (fun k => laws_wkPlan.l0 k (j : Int) n ch l n ch l) true) (n := l.length) ?_ ?_
  · exact Ev.step (fun k => by simp only [laws_wkPlan.l0]; rw [if_neg (by omega)]) (Ev.ret _)
  · intro j hj ih
    refine Ev.step (fun k => ?_) ih
    simp only [laws_wkPlan.l0]
    rw [if_pos (by omega), if_pos (by omega), if_pos (by omega), if_neg (by simp), w64s (by omega)]
def sumC (l : List Co) : Int := (l.map fun c => c.f2 + c.f3).sum
theorem sumC_insG (x : Co) : ∀ l : List Co, sumC (insG x l) = x.f2 + x.f3 + sumC l
  | [] => by simp [insG, sumC]
  | y :: r => by
    have ih := sumC_insG x r
    unfold sumC at ih ⊢
    unfold insG
    split
    · simp only [List.map_cons, List.sum_cons] at ih ⊢
      omega
    · simp only [List.map_cons, List.sum_cons]
theorem sumC_late (t late : Int) (l : List Co) : sumC (lateL t late l) = sumC (l.map (shiftC t late)) := by
  have key : ∀ (l acc : List Co), sumC (l.foldl (fun acc c => insG (shiftC t late c) acc) acc) = sumC acc + sumC (l.map (shiftC t late)) := by
    intro l
    induction l with
    | nil => intro acc; simp [sumC]
    | cons x l ih =>
      intro acc
      rw [List.foldl_cons, ih, sumC_insG]
      simp only [sumC, List.map_cons, List.sum_cons]
      omega
  unfold lateL
  rw [key]
  simp [sumC]
theorem sumC_snoc (l : List Co) (i : Nat) (hi : i < l.length) : sumC (l.take (i + 1)) = sumC (l.take i) + (l[i].f2 + l[i].f3) := by
  unfold sumC
  rw [List.take_add_one, List.getElem?_eq_getElem hi, List.map_append, List.sum_append]
  show _ + (l[i].f2 + l[i].f3 + 0) = _
  omega
theorem sumC_bnd {l : List Co} {B : Int} (hB : 0 ≤ B) (h : ∀ x ∈ l, 0 ≤ x.f2 + x.f3 ∧ x.f2 + x.f3 ≤ B) : ∀ i, i ≤ l.length → 0 ≤ sumC (l.take i) ∧ sumC (l.take i) ≤ B * i
  | 0, _ => by simp [sumC]
  | i + 1, hi => by
    have ih := sumC_bnd hB h i (by omega)
    have h1 := h l[i] (List.getElem_mem (by omega))
    rw [sumC_snoc l i (by omega), show B * ((i + 1 : Nat) : Int) = B * (i : Int) + B by rw [Int.natCast_succ, Int.mul_add, Int.mul_one]]
    omega
theorem shift0 (t : Int) (c : Co) : shiftC t 0 c = c := by
  unfold shiftC
  split
  · rw [Int.add_zero, Int.add_zero]
  · rfl
theorem insG_last {x : Co} {l : List Co} (h : ∀ y ∈ l, y.f2 ≤ x.f2) : insG x l = l ++ [x] := by
  rw [insG_split x l l.length (Nat.le_refl _) (fun j hj _ => h _ (List.getElem_mem hj)) (fun hi => absurd hi (Nat.lt_irrefl _))]
  simp
theorem late0_self (t : Int) {l : List Co} (h : AscG l) : lateL t 0 l = l := by
  have key : ∀ (l acc : List Co), AscG (acc ++ l) → l.foldl (fun acc c => insG (shiftC t 0 c) acc) acc = acc ++ l := by
    intro l
    induction l with
    | nil => intro acc _; simp
    | cons x l ih =>
      intro acc h
      have h1 : ∀ y ∈ acc, y.f2 ≤ x.f2 := fun y hy => (List.pairwise_append.1 h).2.2 y hy x (List.mem_cons_self ..)
      rw [List.foldl_cons, shift0, insG_last h1, ih (acc ++ [x]) (by simpa using h)]
      simp
  exact key l [] (by simpa using h)
theorem planOk_asc {s ch : Int} {l : List Co} (h : planOkB s ch l = true) : AscG l := by
  simp only [planOkB, headB, Bool.and_eq_true] at h
  have ha := restB_all h.1
  have step : ∀ k, (hk : k + 1 < l.length) → l[k].f2 ≤ l[k + 1].f2 := by
    intro k hk
    have := ha (k + 1) hk
    simp only [okAt, ordB, Bool.and_eq_true, Bool.or_eq_true, decide_eq_true_eq, Nat.add_sub_cancel] at this
    have h2 := this.1.2
    have e1 : cn l k = l[k] := by simp [cn, List.getD, show k < l.length by omega]
    have e2 : cn l (k + 1) = l[k + 1] := by simp [cn, List.getD, hk]
    rw [e1, e2] at h2
    rcases h2 with h2 | h2
    · simp at h2
    · exact h2
  have far : ∀ d i, (hi : i + d < l.length) → l[i].f2 ≤ l[i + d].f2 := by
    intro d
    induction d with
    | zero => intro i hi; exact Int.le_refl _
    | succ d ih => intro i hi; exact Int.le_trans (ih i (by omega)) (step (i + d) (by omega))
  refine List.pairwise_iff_getElem.2 fun i j hi hj hij => ?_
  have := far (j - i) i (by omega)
  simpa only [show i + (j - i) = j by omega] using this
theorem planLate_len (n ch : Int) (l : List Co) (trip late : Int) : (planLate n ch l trip late).2.2.1.length ≤ l.length := by
  unfold planLate
  split
  · split
    · simp only [lateL_len]
      exact Nat.le_refl _
    · exact Nat.zero_le _
  · exact Nat.zero_le _
theorem impl_planLate_ev (n ch : Int) (l : List Co) (trip late : Int) (hl : l.length ≤ 1048576) : Ev (fun _ => impl_PlanLate.f n ch l trip late) (planLate n ch l trip late) := Ev.of fun _ => by
  unfold impl_PlanLate.f
  rw [if_pos hl]
end Go.Proofs.Ytcklifkbodmoaaa.M
