/- The program's PlanAll tells what the reference's tells. -/
import Derived.Test.YtcklifkbodmoaaaMPlanRun
import Derived.Test.YtcklifkbodmoaaaPFImplPlanall
import Derived.Test.YtcklifkbodmoaaaPFSpecPlanall
set_option linter.unusedVariables false
namespace Go.Proofs.Ytcklifkbodmoaaa.M
open Go.RowKit Go.Proofs.Ytcklifkbodmoaaa.P Go.Proofs.YtcklifkbodmoaaaV.PrintWords Go.Proofs.YtcklifkbodmoaaaV.PrintMore
/-- may one begin there and then -/
def planInB (s ch : Int) (l : List Cn) (src t0 : Int) : Bool := planOkB s ch l && betB src 0 (wrap64 (s - 1)) && betB t0 0 199
/-- the earliest arrivals -/
def planAll (s ch : Int) (l : List Cn) (src t0 : Int) : List Int := if planInB s ch l src t0 = true then arrN ch src t0 l s 16 else []
theorem planIn_src {s ch : Int} {l : List Cn} {src : Int} (h : planOkB s ch l = true) (h1 : betB src 0 (wrap64 (s - 1)) = true) : 0 ≤ src ∧ src < s := by
  obtain ⟨ok, _⟩ := planOk_ok h
  have := ok.s1
  have := ok.s8
  rw [betB_iff, w64 (by omega)] at h1
  omega
theorem planIn_all {s ch : Int} {l : List Cn} {src t0 : Int} (h : planInB s ch l src t0 = true) : Ok s ch l ∧ Chain l ∧ (0 ≤ src ∧ src < s) ∧ (0 ≤ t0 ∧ t0 ≤ 199) := by
  simp only [planInB, Bool.and_eq_true] at h
  obtain ⟨⟨h0, h1⟩, h2⟩ := h
  obtain ⟨ok, hch⟩ := planOk_ok h0
  exact ⟨ok, hch, planIn_src h0 h1, betB_iff.1 h2⟩
theorem planIn_ev (s ch : Int) (l : List Cn) (src t0 : Int) (hl : l.length ≤ 1048576) : Ev (fun m => impl_planIn.f m s ch l src t0) (planInB s ch l src t0) := by
  unfold impl_planIn.f planInB
  refine Ev.bind (planOk_ev s ch l hl) ?_
  cases planOkB s ch l with
  | false => exact Ev.neg (by simp) ((Ev.ret _).eq (by simp))
  | true =>
  refine Ev.pos rfl (Ev.bind (stop_ev _ _ _ _) ?_)
  cases betB src 0 (wrap64 (s - 1)) with
  | false => exact Ev.neg (by simp) ((Ev.ret _).eq (by simp))
  | true => exact Ev.pos rfl (Ev.bind (timeOk_ev _) ((Ev.ret _).eq (by simp)))
theorem impl_PlanAll_ev (s ch : Int) (l : List Cn) (src t0 : Int) (hl : l.length ≤ 1048576) : Ev (fun m => impl_PlanAll.f m s ch l src t0) (planAll s ch l src t0) := by
  unfold impl_PlanAll.f planAll
  refine Ev.bind (planIn_ev s ch l src t0 hl) ?_
  by_cases h : planInB s ch l src t0 = true
  · rw [if_pos h]
    obtain ⟨ok, hch, hs, ht⟩ := planIn_all h
    obtain ⟨R, hR, hI, hT⟩ := rides_ev (src := src) (t0 := t0) ok
    refine Ev.pos h (Ev.bind hR (Ev.bind (arrivals_ev ok hs hI.len 16) ((Ev.ret _).eq ?_)))
    exact arrL_eq ok hch hs hI hT (most := 16) (Nat.le_refl _)
  · rw [if_neg h]
    exact Ev.neg h (Ev.ret _)
theorem spec_PlanAll_ev (s ch : Int) (l : List Cn) (src t0 : Int) (hl : l.length ≤ 1048576) : Ev (fun m => spec_PlanAll.f m s ch l src t0) (planAll s ch l src t0) := by
  unfold spec_PlanAll.f
  refine Ev.bind (l6Ok_ev s ch l hl) ?_
  have key : ∀ b0 b1 b2, planOkB s ch l = b0 → betB src 0 (wrap64 (s - 1)) = b1 → betB t0 0 199 = b2 → (b0 && b1 && b2) = false → planAll s ch l src t0 = [] := by
    intro b0 b1 b2 h0 h1 h2 h
    unfold planAll planInB
    rw [h0, h1, h2, h, if_neg (by simp)]
  cases h0 : planOkB s ch l with
  | false => exact Ev.neg (by simp) ((Ev.ret _).eq (key _ _ _ h0 rfl rfl (by simp)).symm)
  | true =>
  refine Ev.pos rfl (Ev.bind (l1In_ev _ _ _) ?_)
  cases h1 : betB src 0 (wrap64 (s - 1)) with
  | false => exact Ev.neg (by simp) ((Ev.ret _).eq (key _ _ _ h0 h1 rfl (by simp)).symm)
  | true =>
  refine Ev.pos rfl (Ev.bind (l1In_ev _ _ _) ?_)
  cases h2 : betB t0 0 199 with
  | false => exact Ev.neg (by simp) ((Ev.ret _).eq (key _ _ _ h0 h1 h2 (by simp)).symm)
  | true =>
  have h : planInB s ch l src t0 = true := by unfold planInB; rw [h0, h1, h2]; rfl
  obtain ⟨ok, hch, hs, ht⟩ := planIn_all h
  refine Ev.pos rfl (Ev.bind (l6All_ev ok hch hs) ((Ev.ret _).eq ?_))
  unfold planAll
  rw [if_pos h]
  have := ok.s8
  exact all6_eq ok hch ht.2 hs 16 (.inl (by omega))
theorem planAll_len {s ch : Int} {l : List Cn} {src t0 : Int} (h : planInB s ch l src t0 = true) : ((planAll s ch l src t0).length : Int) = s := by
  obtain ⟨ok, hch, hs, ht⟩ := planIn_all h
  unfold planAll
  rw [if_pos h]
  exact (arrN_arr ok hch hs 16).len
theorem planAll_short (s ch : Int) (l : List Cn) (src t0 : Int) : (planAll s ch l src t0).length ≤ 8 := by
  by_cases h : planInB s ch l src t0 = true
  · have := planAll_len h
    obtain ⟨ok, _⟩ := planIn_all h
    have := ok.s8
    omega
  · unfold planAll
    rw [if_neg h]
    simp
theorem planAll_arr {s ch : Int} {l : List Cn} {src t0 : Int} (h : planInB s ch l src t0 = true) : IsArr l s src t0 (fun k => ∃ n, Ont l ch src t0 n k) (planAll s ch l src t0) := by
  obtain ⟨ok, hch, hs, ht⟩ := planIn_all h
  unfold planAll
  rw [if_pos h]
  have := ok.s8
  exact all_arr ok hch ht.2 (fun j => arrN_arr ok hch hs j) hs 16 (.inl (by omega))
end Go.Proofs.Ytcklifkbodmoaaa.M
