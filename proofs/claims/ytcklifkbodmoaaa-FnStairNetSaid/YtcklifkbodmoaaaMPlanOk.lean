/- The program's test of a timetable tells what the reference's tells. -/
import Derived.Test.YtcklifkbodmoaaaMPlan
import Derived.Test.YtcklifkbodmoaaaGBase
import Derived.Test.YtcklifkbodmoaaaGPBase
import Derived.Test.YtcklifkbodmoaaaPFSpecL6Ok
set_option linter.unusedVariables false
namespace Go.Proofs.Ytcklifkbodmoaaa.M
open Go.RowKit Go.Proofs.Ytcklifkbodmoaaa.P Go.Proofs.YtcklifkbodmoaaaV.PrintWords Go.Proofs.YtcklifkbodmoaaaV.PrintMore
def betB (n lo hi : Int) : Bool := decide (lo ≤ n) && decide (n ≤ hi)
theorem l1In_le (n lo hi : Int) : spec_l1In.f n lo hi = some (betB n lo hi) := by
  unfold spec_l1In.f betB
  by_cases h : n ≥ lo
  · rw [if_pos h]
    simp [show lo ≤ n from h]
  · rw [if_neg h]
    simp [show ¬ lo ≤ n from h]
theorem within_le (n lo hi : Int) : impl_within.f n lo hi = some (betB n lo hi) := by
  unfold impl_within.f betB
  by_cases h : n ≥ lo
  · rw [if_pos h]
    simp [show lo ≤ n from h]
  · rw [if_neg h]
    simp [show ¬ lo ≤ n from h]
theorem betB_iff {n lo hi : Int} : betB n lo hi = true ↔ lo ≤ n ∧ n ≤ hi := by simp [betB]
theorem l1In_ev (n lo hi : Int) : Ev (fun _ => spec_l1In.f n lo hi) (betB n lo hi) := Ev.of fun _ => l1In_le n lo hi
theorem within_ev (n lo hi : Int) : Ev (fun _ => impl_within.f n lo hi) (betB n lo hi) := Ev.of fun _ => within_le n lo hi
theorem stop_ev (s ch : Int) (l : List Cn) (v : Int) : Ev (fun _ => impl_Plan_stop.f s ch l v) (betB v 0 (wrap64 (s - 1))) := Ev.of fun _ => by unfold impl_Plan_stop.f; rw [within_le]; rfl
theorem timeOk_ev (v : Int) : Ev (fun _ => impl_timeOk.f v) (betB v 0 199) := Ev.of fun _ => by unfold impl_timeOk.f; rw [within_le]; rfl
theorem valid_ev (a b : Int) : Ev (fun _ => impl_Step_valid.f a b) (betB a 0 199 && betB b a 199) := Ev.of fun _ => by
  unfold impl_Step_valid.f impl_timeOk.f
  rw [within_le]
  cases betB a 0 199 with
  | true => rw [within_le]; rfl
  | false => rfl
/-- a connection as it should be, for itself -/
def conB (s : Int) (c : Cn) : Bool := betB c.f0 0 (wrap64 (s - 1)) && betB c.f1 0 (wrap64 (s - 1)) && !decide (c.f0 = c.f1) && betB c.f2 0 199 && betB c.f3 c.f2 199 && betB c.f4 0 5
def ordB (l : List Cn) (k : Nat) : Bool := k == 0 || decide ((cn l (k - 1)).f2 ≤ (cn l k).f2)
def goesB (l : List Cn) (k : Nat) : Bool := match bef l k with
  | some i => decide ((cn l i).f1 = (cn l k).f0) && decide ((cn l i).f3 ≤ (cn l k).f2)
  | none => true
def okAt (s : Int) (l : List Cn) (k : Nat) : Bool := conB s (cn l k) && ordB l k && goesB l k
def restB (f : Nat → Bool) (n i : Nat) : Bool := (List.range' i (n - i)).all f
theorem restB_end (f : Nat → Bool) (n : Nat) : restB f n n = true := by simp [restB]
theorem restB_step (f : Nat → Bool) {n i : Nat} (h : i < n) : restB f n i = (f i && restB f n (i + 1)) := by
  unfold restB
  rw [show n - i = (n - (i + 1)) + 1 by omega, List.range'_succ, List.all_cons]
theorem restB_all {f : Nat → Bool} {n : Nat} (h : restB f n 0 = true) : ∀ k, k < n → f k = true := by
  intro k hk
  unfold restB at h
  rw [List.all_eq_true] at h
  exact h k (by rw [List.mem_range'_1]; omega)
def headB (s ch : Int) (l : List Cn) : Bool := betB s 1 8 && decide (l.length ≤ 16) && betB ch 0 20
/-- is a plan one -/
def planOkB (s ch : Int) (l : List Cn) : Bool := restB (okAt s l) l.length 0 && headB s ch l
/-- the connection ahead, as a number -/
def befI (l : List Cn) (k : Nat) : Int := match bef l k with
  | some i => (i : Int)
  | none => -1
theorem before_ev (s ch : Int) {l : List Cn} {k : Nat} (hk : k < l.length) (hl : l.length ≤ 1048576) : Ev (fun m => impl_Plan_before.f m s ch l (k : Int)) (befI l k) := by
  have key : ∀ j : Nat, j ≤ k → Ev (fun m => impl_Plan_before.l0 m (k : Int) ((j : Int) - 1) s ch l) (match befAt l k j with | some i => (i : Int) | none => -1) := by
    intro j
    induction j with
    | zero =>
      intro _
      refine Ev.step (G := fun _ => some (-1)) (fun m => ?_) (Ev.ret _)
      simp only [impl_Plan_before.l0]
      rw [if_neg (by omega)]
    | succ j ih =>
      intro hj
      have e : (((j + 1 : Nat) : Int) - 1) = (j : Int) := by omega
      rw [e]
      by_cases ht : (cn l j).f4 = (cn l k).f4
      · have : befAt l k (j + 1) = some j := by simp [befAt, ht]
        rw [this]
        refine Ev.step (G := fun _ => some (j : Int)) (fun m => ?_) (Ev.ret _)
        simp only [impl_Plan_before.l0]
        rw [if_pos (by omega), if_pos (by omega), if_pos (by omega), if_pos (by omega), if_pos (by omega), rdT_cn, rdT_cn, if_pos ht]
      · have : befAt l k (j + 1) = befAt l k j := by simp [befAt, ht]
        rw [this]
        refine Ev.step (fun m => ?_) (ih (by omega))
        simp only [impl_Plan_before.l0]
        rw [if_pos (by omega), if_pos (by omega), if_pos (by omega), if_pos (by omega), if_pos (by omega), rdT_cn, rdT_cn, if_neg ht, w64 (by omega)]
  have := key k (Nat.le_refl _)
  refine Ev.congr (fun m => ?_) this
  unfold impl_Plan_before.f
  rw [w64 (by omega)]
theorem goes_ev (s ch : Int) {l : List Cn} {k : Nat} (hk : k < l.length) (hl : l.length ≤ 1048576) : Ev (fun m => spec_l6Goes.f m s ch l (k : Int)) (goesB l k) := by
  have key : ∀ j : Nat, j ≤ k → Ev (fun m => spec_l6Goes.l0 m (k : Int) ((j : Int) - 1) s ch l) (match befAt l k j with | some i => decide ((cn l i).f1 = (cn l k).f0) && decide ((cn l i).f3 ≤ (cn l k).f2) | none => true) := by
    intro j
    induction j with
    | zero =>
      intro _
      refine Ev.step (G := fun _ => some true) (fun m => ?_) (Ev.ret _)
      simp only [spec_l6Goes.l0]
      rw [if_neg (by omega)]
    | succ j ih =>
      intro hj
      have e : (((j + 1 : Nat) : Int) - 1) = (j : Int) := by omega
      rw [e]
      by_cases ht : (cn l j).f4 = (cn l k).f4
      · have : befAt l k (j + 1) = some j := by simp [befAt, ht]
        rw [this]
        refine Ev.step (G := fun _ => some (decide ((cn l j).f1 = (cn l k).f0) && decide ((cn l j).f3 ≤ (cn l k).f2))) (fun m => ?_) (Ev.ret _)
        simp only [spec_l6Goes.l0]
        rw [if_pos (by omega), if_pos (by omega), if_pos (by omega), if_pos (by omega), if_pos (by omega), rdT_cn, rdT_cn, if_pos ht]
        by_cases h1 : (cn l j).f1 = (cn l k).f0
        · rw [if_pos h1]
          simp [h1]
        · rw [if_neg h1]
          simp [h1]
      · have : befAt l k (j + 1) = befAt l k j := by simp [befAt, ht]
        rw [this]
        refine Ev.step (fun m => ?_) (ih (by omega))
        simp only [spec_l6Goes.l0]
        rw [if_pos (by omega), if_pos (by omega), if_pos (by omega), if_pos (by omega), if_pos (by omega), rdT_cn, rdT_cn, if_neg ht, w64 (by omega)]
  have := key k (Nat.le_refl _)
  refine Ev.congr (fun m => ?_) this
  unfold spec_l6Goes.f
  rw [w64 (by omega)]
theorem l6Ok_ev (s ch : Int) (l : List Cn) (hl : l.length ≤ 1048576) : Ev (fun m => spec_l6Ok.f m s ch l) (planOkB s ch l) := by
  show Ev (fun m => spec_l6Ok.l0 m 0 s ch l) _
  refine downto (P := fun i => Ev (fun m => spec_l6Ok.l0 m (i : Int) s ch l) (restB (okAt s l) l.length i && headB s ch l)) (n := l.length) ?_ ?_
  · rw [restB_end, Bool.true_and]
    refine Ev.step (fun m => by simp only [spec_l6Ok.l0]; rw [if_neg (by omega)]) ?_
    refine Ev.bind (l1In_ev _ _ _) ?_
    unfold headB
    cases h1 : betB s 1 8 with
    | false => exact Ev.neg (by simp) ((Ev.ret _).eq (by simp))
    | true =>
      refine Ev.pos rfl ?_
      by_cases h2 : (l.length : Int) ≤ 16
      · refine Ev.pos h2 (Ev.bind (l1In_ev _ _ _) ((Ev.ret _).eq ?_))
        have : l.length ≤ 16 := by omega
        simp [this]
      · refine Ev.neg h2 ((Ev.ret _).eq ?_)
        have : ¬ l.length ≤ 16 := by omega
        simp [this]
  · intro i hi hnext
    rw [restB_step _ hi]
    refine Ev.step (fun m => by simp only [spec_l6Ok.l0]; rw [if_pos (by omega), if_pos (by omega)]) ?_
    simp only [rdT_cn]
    refine Ev.bind (l1In_ev _ _ _) ?_
    unfold okAt conB
    cases c0 : betB (cn l i).f0 0 (wrap64 (s - 1)) with
    | false => exact Ev.neg (by simp) ((Ev.ret _).eq (by simp))
    | true =>
    refine Ev.pos rfl (Ev.bind (l1In_ev _ _ _) ?_)
    cases c1 : betB (cn l i).f1 0 (wrap64 (s - 1)) with
    | false => exact Ev.neg (by simp) ((Ev.ret _).eq (by simp))
    | true =>
    refine Ev.pos rfl ?_
    by_cases c2 : (cn l i).f0 = (cn l i).f1
    · exact Ev.pos c2 ((Ev.ret _).eq (by simp [c2]))
    refine Ev.neg c2 (Ev.bind (l1In_ev _ _ _) ?_)
    cases c3 : betB (cn l i).f2 0 199 with
    | false => exact Ev.neg (by simp) ((Ev.ret _).eq (by simp))
    | true =>
    refine Ev.pos rfl (Ev.bind (l1In_ev _ _ _) ?_)
    cases c4 : betB (cn l i).f3 (cn l i).f2 199 with
    | false => exact Ev.neg (by simp) ((Ev.ret _).eq (by simp))
    | true =>
    refine Ev.pos rfl (Ev.bind (l1In_ev _ _ _) ?_)
    cases c5 : betB (cn l i).f4 0 5 with
    | false => exact Ev.neg (by simp) ((Ev.ret _).eq (by simp))
    | true =>
    refine Ev.pos rfl ?_
    simp only [c2, decide_false, Bool.not_false, Bool.true_and, Bool.and_true]
    have fin : ∀ b, ordB l i = true → goesB l i = b → Ev (fun m => if b = true then spec_l6Ok.l0 m (wrap64 ((i : Int) + 1)) s ch l else some false) (ordB l i && goesB l i && restB (fun k => conB s (cn l k) && ordB l k && goesB l k) l.length (i + 1) && headB s ch l) := by
      intro b ho hb
      rw [ho, hb]
      cases b with
      | true =>
        rw [w64s (by omega)]
        refine Ev.pos rfl (hnext.eq ?_)
        simp only [Bool.true_and]
        rfl
      | false => exact Ev.neg (by simp) ((Ev.ret _).eq (by simp))
    by_cases hi0 : (i : Int) > 0
    · have hw : wrap64 ((i : Int) - 1) = ((i - 1 : Nat) : Int) := by rw [w64 (by omega)]; omega
      refine Ev.pos hi0 ?_
      rw [hw]
      refine Ev.pos (by omega) (Ev.pos (by omega) ?_)
      rw [rdT_cn]
      have hb0 : (i == 0) = false := by simp; omega
      by_cases ho : (cn l i).f2 < (cn l (i - 1)).f2
      · refine Ev.pos ho ((Ev.ret _).eq ?_)
        have : ¬ (cn l (i - 1)).f2 ≤ (cn l i).f2 := by omega
        simp [ordB, hb0, this]
      · have ho' : (cn l (i - 1)).f2 ≤ (cn l i).f2 := by omega
        exact Ev.neg ho (Ev.bind (goes_ev s ch hi hl) (fin _ (by simp [ordB, ho']) rfl))
    · have e : i = 0 := by omega
      exact Ev.neg hi0 (Ev.bind (goes_ev s ch hi hl) (fin _ (by simp [ordB, e]) rfl))
theorem planOk_ev (s ch : Int) (l : List Cn) (hl : l.length ≤ 1048576) : Ev (fun m => impl_PlanOk.f m s ch l) (planOkB s ch l) := by
  unfold impl_PlanOk.f planOkB headB
  refine Ev.bind (within_ev _ _ _) ?_
  have stop : Ev (fun m => impl_PlanOk.j0 m true s ch l) false := Ev.step (fun m => by simp only [impl_PlanOk.j0]; rfl) (Ev.pos (by trivial) (Ev.ret _))
  cases h1 : betB s 1 8 with
  | false => exact Ev.neg (by simp) (stop.eq (by simp))
  | true =>
  refine Ev.pos rfl (Ev.bind (within_ev _ _ _) ?_)
  cases h2 : betB ch 0 20 with
  | false => exact Ev.neg (by simp) (stop.eq (by simp))
  | true =>
  refine Ev.pos rfl ?_
  by_cases h3 : (l.length : Int) > 16
  · have h3' : ¬ l.length ≤ 16 := by omega
    rw [decide_eq_true h3]
    exact stop.eq (by simp [h3'])
  have h3' : l.length ≤ 16 := by omega
  rw [decide_eq_false h3]
  refine Ev.step (fun m => by simp only [impl_PlanOk.j0]; rfl) (Ev.neg (by simp) ?_)
  simp only [h3', decide_true, Bool.and_true]
  refine downto (P := fun i => Ev (fun m => impl_PlanOk.l0 m l (l.length : Int) (i : Int) s ch l) (restB (okAt s l) l.length i)) (n := l.length) ?_ ?_
  · rw [restB_end]
    exact Ev.step (fun m => by simp only [impl_PlanOk.l0]; rw [if_neg (by omega)]) (Ev.ret _)
  · intro i hi hnext
    rw [restB_step _ hi]
    refine Ev.step (fun m => by simp only [impl_PlanOk.l0]; rw [if_pos (by omega), if_pos (by omega), if_pos (by omega)]) ?_
    simp only [rdT_cn]
    unfold okAt conB
    have bad : ∀ a0 a1 a2 a3 a4, Ev (fun m => impl_PlanOk.j2 m (i : Int) l (l.length : Int) (i : Int) true s ch l a0 a1 a2 a3 a4) false := fun a0 a1 a2 a3 a4 => Ev.step (fun m => by simp only [impl_PlanOk.j2]; rfl) (Ev.pos (by trivial) (Ev.ret _))
    refine Ev.bind (stop_ev _ _ _ _) ?_
    cases c0 : betB (cn l i).f0 0 (wrap64 (s - 1)) with
    | false => exact Ev.neg (by simp) ((bad _ _ _ _ _).eq (by simp))
    | true =>
    refine Ev.pos rfl (Ev.bind (stop_ev _ _ _ _) ?_)
    cases c1 : betB (cn l i).f1 0 (wrap64 (s - 1)) with
    | false => exact Ev.neg (by simp) ((bad _ _ _ _ _).eq (by simp))
    | true =>
    refine Ev.pos rfl ?_
    by_cases c2 : (cn l i).f0 = (cn l i).f1
    · exact Ev.pos c2 ((bad _ _ _ _ _).eq (by simp [c2]))
    refine Ev.neg c2 (Ev.bind (valid_ev _ _) ?_)
    cases c3 : betB (cn l i).f2 0 199 with
    | false => exact Ev.neg (by simp) ((bad _ _ _ _ _).eq (by simp))
    | true =>
    cases c4 : betB (cn l i).f3 (cn l i).f2 199 with
    | false => exact Ev.neg (by simp) ((bad _ _ _ _ _).eq (by simp))
    | true =>
    refine Ev.pos rfl (Ev.bind (within_ev _ _ _) ?_)
    cases c5 : betB (cn l i).f4 0 5 with
    | false => exact (bad _ _ _ _ _).eq (by simp)
    | true =>
    simp only [c2, decide_false, Bool.not_false, Bool.true_and, Bool.and_true, Bool.not_true]
    have fin : ordB l i = true → Ev (fun m => impl_PlanOk.j3 m (i : Int) l (l.length : Int) (i : Int) false s ch l (cn l i).f0 (cn l i).f1 (cn l i).f2 (cn l i).f3 (cn l i).f4) (ordB l i && goesB l i && restB (fun k => conB s (cn l k) && ordB l k && goesB l k) l.length (i + 1)) := by
      intro ho
      rw [ho, Bool.true_and]
      refine Ev.step (fun m => by simp only [impl_PlanOk.j3]; rfl) (Ev.neg (by simp) (Ev.bind (before_ev s ch hi hl) ?_))
      unfold befI goesB
      cases hb : bef l i with
      | none =>
        refine Ev.neg (by simp) ?_
        rw [w64s (by omega), Bool.true_and]
        exact hnext
      | some j =>
        obtain ⟨hj, _, _⟩ := befAt_some hb
        simp only
        refine Ev.pos (by omega) (Ev.pos (by omega) (Ev.pos (by omega) ?_))
        rw [rdT_cn]
        by_cases g1 : (cn l j).f1 = (cn l i).f0
        · refine Ev.pos g1 ?_
          by_cases g2 : (cn l j).f3 > (cn l i).f2
          · have : ¬ (cn l j).f3 ≤ (cn l i).f2 := by omega
            exact Ev.pos g2 ((Ev.ret _).eq (by simp [this]))
          · have : (cn l j).f3 ≤ (cn l i).f2 := by omega
            refine Ev.neg g2 ?_
            rw [w64s (by omega)]
            exact hnext.eq (by simp [g1, this]; rfl)
        · exact Ev.neg g1 ((Ev.ret _).eq (by simp [g1]))
    refine Ev.step (fun m => by simp only [impl_PlanOk.j2]; rfl) (Ev.neg (by simp) ?_)
    by_cases hi0 : (i : Int) > 0
    · have hw : wrap64 ((i : Int) - 1) = ((i - 1 : Nat) : Int) := by rw [w64 (by omega)]; omega
      refine Ev.pos hi0 ?_
      rw [hw]
      refine Ev.pos (by omega) (Ev.pos (by omega) ?_)
      rw [rdT_cn]
      have hb0 : (i == 0) = false := by simp; omega
      by_cases ho : (cn l (i - 1)).f2 > (cn l i).f2
      · rw [decide_eq_true ho]
        have : ¬ (cn l (i - 1)).f2 ≤ (cn l i).f2 := by omega
        exact Ev.step (fun m => by simp only [impl_PlanOk.j3]; rfl) (Ev.pos (by trivial) ((Ev.ret _).eq (by simp [ordB, hb0, this])))
      · rw [decide_eq_false ho]
        have ho' : (cn l (i - 1)).f2 ≤ (cn l i).f2 := by omega
        exact fin (by simp [ordB, ho'])
    · have e : i = 0 := by omega
      exact Ev.neg hi0 (fin (by simp [ordB, e]))
theorem planOk_ok {s ch : Int} {l : List Cn} (h : planOkB s ch l = true) : Ok s ch l ∧ Chain l := by
  simp only [planOkB, headB, Bool.and_eq_true, betB_iff, decide_eq_true_eq] at h
  obtain ⟨h0, ⟨⟨h1, h2⟩, h3⟩, h4, h5⟩ := h
  have ha := restB_all h0
  have hc : ∀ k, k < l.length → conB s (cn l k) = true ∧ goesB l k = true := by
    intro k hk
    have := ha k hk
    simp only [okAt, Bool.and_eq_true] at this
    exact ⟨this.1.1, this.2⟩
  refine ⟨⟨h1, h2, h4, h5, h3, fun k hk => ?_⟩, fun k i hk hb => ?_⟩
  · have := (hc k hk).1
    simp only [conB, Bool.and_eq_true, betB_iff, Bool.not_eq_true', decide_eq_false_iff_not] at this
    rw [w64 (by omega)] at this
    omega
  · have := (hc k hk).2
    unfold goesB at this
    rw [hb] at this
    simpa using this
end Go.Proofs.Ytcklifkbodmoaaa.M
