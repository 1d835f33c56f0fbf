/- The program's RoundAll tells what the reference's tells. -/
import Derived.Test.YtcklifkbodmoaaaMRound
import Derived.Test.YtcklifkbodmoaaaPFImplRoundall
import Derived.Test.YtcklifkbodmoaaaPFSpecRoundall
set_option linter.unusedVariables false
namespace Go.Proofs.Ytcklifkbodmoaaa.M
open Go.RowKit Go.Proofs.Ytcklifkbodmoaaa.P Go.Proofs.YtcklifkbodmoaaaV.PrintWords Go.Proofs.YtcklifkbodmoaaaV.PrintMore
def roundAll (s ch : Int) (l : List Cn) (src t0 most : Int) : List (List Int) := if (planInB s ch l src t0 && betB most 0 6) = true then grid7 ch src t0 l s (most.toNat + 1) else []
theorem roundAll_len (s ch : Int) (l : List Cn) (src t0 most : Int) : (roundAll s ch l src t0 most).length ≤ 7 := by
  unfold roundAll
  split
  · rename_i h
    simp only [Bool.and_eq_true, betB_iff] at h
    rw [grid7_len]
    omega
  · simp
theorem roundAll_row (s ch : Int) (l : List Cn) (src t0 most : Int) : ∀ r ∈ roundAll s ch l src t0 most, r.length ≤ 8 := by
  unfold roundAll
  split
  · rename_i h
    simp only [Bool.and_eq_true, betB_iff] at h
    obtain ⟨ok, hch, hs, ht⟩ := planIn_all h.1
    intro r hr
    obtain ⟨j, _, rfl⟩ := List.mem_map.1 hr
    have := arrN_len (t0 := t0) ok hch hs j
    have := ok.s8
    omega
  · simp
theorem impl_RoundAll_ev (s ch : Int) (l : List Cn) (src t0 most : Int) (hl : l.length ≤ 1048576) : Ev (fun m => impl_RoundAll.f m s ch l src t0 most) (roundAll s ch l src t0 most) := by
  unfold impl_RoundAll.f roundAll
  have stop : Ev (fun m => impl_RoundAll.j0 m src t0 most true s ch l) [] := Ev.step (fun m => by simp only [impl_RoundAll.j0] <;> rfl) (Ev.pos (by trivial) (Ev.ret _))
  refine Ev.bind (planIn_ev s ch l src t0 hl) ?_
  cases h : planInB s ch l src t0 with
  | false => exact Ev.neg (by simp) (stop.eq (by simp))
  | true =>
  refine Ev.pos rfl (Ev.bind (within_ev _ _ _) ?_)
  cases h2 : betB most 0 6 with
  | false => exact stop.eq (by simp)
  | true =>
  obtain ⟨ok, hch, hs, ht⟩ := planIn_all h
  have hm := betB_iff.1 h2
  obtain ⟨n, rfl⟩ := Int.eq_ofNat_of_zero_le hm.1
  obtain ⟨R, hR, hI, hT⟩ := rides_ev (src := src) (t0 := t0) ok
  rw [if_pos (by simp), Int.toNat_natCast]
  refine Ev.step (fun m => by simp only [impl_RoundAll.j0] <;> rfl) (Ev.neg (by simp) (Ev.bind hR ?_))
  rw [w64s (by omega)]
  refine Ev.pos (by omega) (Ev.pos (by omega) ?_)
  refine downto (P := fun i => Ev (fun m => impl_RoundAll.l0 m src t0 R (grid7 ch src t0 l s i) ((n + 1 : Nat) : Int) (i : Int) s ch l) (grid7 ch src t0 l s (n + 1))) (n := n + 1) ?_ ?_
  · exact Ev.step (fun m => by simp only [impl_RoundAll.l0]; rw [if_neg (by omega)]) (Ev.ret _)
  · intro i hi hnext
    have hA := arrivals_ev (t0 := t0) ok hs hI.len (i : Int)
    rw [arrL_eq ok hch hs hI hT (most := i) (by omega)] at hA
    refine Ev.step (fun m => by simp only [impl_RoundAll.l0]; rw [if_pos (by omega)]) (Ev.bind hA ?_)
    rw [w64s (by omega)]
    refine Ev.pos (by rw [grid7_len]; omega) ?_
    have e : grid7 ch src t0 l s i ++ [arrN ch src t0 l s i] = grid7 ch src t0 l s (i + 1) := by simp [grid7, List.range_succ]
    rw [e]
    exact hnext
theorem spec_RoundAll_ev (s ch : Int) (l : List Cn) (src t0 most : Int) (hl : l.length ≤ 1048576) : Ev (fun m => spec_RoundAll.f m s ch l src t0 most) (roundAll s ch l src t0 most) := by
  unfold spec_RoundAll.f
  have no : ∀ b0 b1 b2 b3, planOkB s ch l = b0 → betB src 0 (wrap64 (s - 1)) = b1 → betB t0 0 199 = b2 → betB most 0 6 = b3 → (b0 && b1 && b2 && b3) = false → roundAll s ch l src t0 most = [] := by
    intro b0 b1 b2 b3 h0 h1 h2 h3 h
    unfold roundAll planInB
    rw [h0, h1, h2, h3, h, if_neg (by simp)]
  refine Ev.bind (l6Ok_ev s ch l hl) ?_
  cases h0 : planOkB s ch l with
  | false => exact Ev.neg (by simp) ((Ev.ret _).eq (no _ _ _ _ h0 rfl rfl rfl (by simp)).symm)
  | true =>
  refine Ev.pos rfl (Ev.bind (l1In_ev _ _ _) ?_)
  cases h1 : betB src 0 (wrap64 (s - 1)) with
  | false => exact Ev.neg (by simp) ((Ev.ret _).eq (no _ _ _ _ h0 h1 rfl rfl (by simp)).symm)
  | true =>
  refine Ev.pos rfl (Ev.bind (l1In_ev _ _ _) ?_)
  cases h2 : betB t0 0 199 with
  | false => exact Ev.neg (by simp) ((Ev.ret _).eq (no _ _ _ _ h0 h1 h2 rfl (by simp)).symm)
  | true =>
  refine Ev.pos rfl (Ev.bind (l1In_ev _ _ _) ?_)
  cases h3 : betB most 0 6 with
  | false => exact Ev.neg (by simp) ((Ev.ret _).eq (no _ _ _ _ h0 h1 h2 h3 (by simp)).symm)
  | true =>
  have h : planInB s ch l src t0 = true := by unfold planInB; rw [h0, h1, h2]; rfl
  obtain ⟨ok, hch, hs, ht⟩ := planIn_all h
  have hm := betB_iff.1 h3
  obtain ⟨n, rfl⟩ := Int.eq_ofNat_of_zero_le hm.1
  unfold roundAll
  rw [h, h3, if_pos (by simp), Int.toNat_natCast]
  exact Ev.pos rfl (Ev.bind (l7All_ev ok hch hs ht n (by omega)) (Ev.ret _))
end Go.Proofs.Ytcklifkbodmoaaa.M
