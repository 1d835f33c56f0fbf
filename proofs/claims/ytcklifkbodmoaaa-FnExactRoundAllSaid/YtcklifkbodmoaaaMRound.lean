/- The program's RoundAll and RoundBest tell what the reference's tell. -/
import Derived.Test.YtcklifkbodmoaaaMPlanAll
import Derived.Test.YtcklifkbodmoaaaPFImplRoundbest
import Derived.Test.YtcklifkbodmoaaaPFSpecRoundbest
set_option linter.unusedVariables false
namespace Go.Proofs.Ytcklifkbodmoaaa.M
open Go.RowKit Go.Proofs.Ytcklifkbodmoaaa.P Go.Proofs.YtcklifkbodmoaaaV.PrintWords Go.Proofs.YtcklifkbodmoaaaV.PrintMore
abbrev Rn := S43
/-- the journeys by trips and arrival, of arrivals f with at most so many -/
def rbF (f : Nat → Int) : Nat → List Rn × Int
  | 0 => ([], 99999)
  | k + 1 => if f k < (rbF f k).2 then ((rbF f k).1 ++ [⟨(k : Int), f k⟩], f k) else rbF f k
theorem rbF_len (f : Nat → Int) : ∀ k, (rbF f k).1.length ≤ k
  | 0 => by simp [rbF]
  | k + 1 => by
    have := rbF_len f k
    simp only [rbF]
    split
    · simp; omega
    · omega
def roundBest (s ch : Int) (l : List Cn) (src tg t0 : Int) : List Rn := if (planInB s ch l src t0 && betB tg 0 (wrap64 (s - 1))) = true then (rbF (fun k => rd (arrN ch src t0 l s k) tg) 7).1 else []
theorem roundBest_len (s ch : Int) (l : List Cn) (src tg t0 : Int) : (roundBest s ch l src tg t0).length ≤ 7 := by
  unfold roundBest
  split
  · exact rbF_len _ 7
  · simp
theorem arrN_len {s ch : Int} {l : List Cn} {src t0 : Int} (ok : Ok s ch l) (hch : Chain l) (hs : 0 ≤ src ∧ src < s) (j : Nat) : ((arrN ch src t0 l s j).length : Int) = s := (arrN_arr ok hch hs j).len
theorem to_in {s ch : Int} {l : List Cn} {tg : Int} (ok : Ok s ch l) (h : betB tg 0 (wrap64 (s - 1)) = true) : 0 ≤ tg ∧ tg < s := by
  have := ok.s1
  have := ok.s8
  rw [betB_iff, w64 (by omega)] at h
  omega
theorem impl_RoundBest_ev (s ch : Int) (l : List Cn) (src tg t0 : Int) (hl : l.length ≤ 1048576) : Ev (fun m => impl_RoundBest.f m s ch l src tg t0) (roundBest s ch l src tg t0) := by
  unfold impl_RoundBest.f roundBest
  have stop : Ev (fun m => impl_RoundBest.j0 m src tg t0 true s ch l) [] := Ev.step (fun m => by simp only [impl_RoundBest.j0] <;> rfl) (Ev.pos (by trivial) (Ev.ret _))
  refine Ev.bind (planIn_ev s ch l src t0 hl) ?_
  cases h : planInB s ch l src t0 with
  | false => exact Ev.neg (by simp) (stop.eq (by simp))
  | true =>
  refine Ev.pos rfl (Ev.bind (stop_ev _ _ _ _) ?_)
  cases h2 : betB tg 0 (wrap64 (s - 1)) with
  | false => exact stop.eq (by simp)
  | true =>
  obtain ⟨ok, hch, hs, ht⟩ := planIn_all h
  have hto := to_in ok h2
  obtain ⟨R, hR, hI, hT⟩ := rides_ev (src := src) (t0 := t0) ok
  rw [if_pos (by simp)]
  refine Ev.step (fun m => by simp only [impl_RoundBest.j0] <;> rfl) (Ev.neg (by simp) (Ev.bind hR ?_))
  refine Ev.pos (by decide) ?_
  refine downto (P := fun i => Ev (fun m => impl_RoundBest.l0 m src tg t0 R (rbF (fun k => rd (arrN ch src t0 l s k) tg) i).1 (rbF (fun k => rd (arrN ch src t0 l s k) tg) i).2 (i : Int) s ch l) (rbF (fun k => rd (arrN ch src t0 l s k) tg) 7).1) (n := 7) ?_ ?_
  · exact Ev.step (fun m => by simp only [impl_RoundBest.l0]; rw [if_neg (by omega)]) (Ev.ret _)
  · intro i hi hnext
    have hA := arrivals_ev (t0 := t0) ok hs hI.len (i : Int)
    rw [arrL_eq ok hch hs hI hT (most := i) (by omega)] at hA
    have hln := arrN_len (t0 := t0) ok hch hs i
    have hbl := rbF_len (fun k => rd (arrN ch src t0 l s k) tg) i
    refine Ev.step (fun m => by simp only [impl_RoundBest.l0]; rw [if_pos (by omega)]) (Ev.bind hA ?_)
    refine Ev.pos hto.1 (Ev.pos (by omega) ?_)
    simp only [rbF] at hnext
    rw [w64s (by omega)]
    by_cases hc : rd (arrN ch src t0 l s i) tg < (rbF (fun k => rd (arrN ch src t0 l s k) tg) i).2
    · rw [if_pos hc] at hnext
      exact Ev.pos hc (Ev.pos (by omega) hnext)
    · rw [if_neg hc] at hnext
      exact Ev.neg hc hnext
theorem spec_RoundBest_ev (s ch : Int) (l : List Cn) (src tg t0 : Int) (hl : l.length ≤ 1048576) : Ev (fun m => spec_RoundBest.f m s ch l src tg t0) (roundBest s ch l src tg t0) := by
  unfold spec_RoundBest.f
  simp only [Option.bind_some]
  have stop : Ev (fun m => spec_RoundBest.j0 m src tg t0 [] true s ch l) [] := Ev.step (fun m => by simp only [spec_RoundBest.j0] <;> rfl) (Ev.pos (by trivial) (Ev.ret _))
  have no : ∀ b0 b1 b2 b3, planOkB s ch l = b0 → betB src 0 (wrap64 (s - 1)) = b1 → betB tg 0 (wrap64 (s - 1)) = b2 → betB t0 0 199 = b3 → (b0 && b1 && b3 && b2) = false → roundBest s ch l src tg t0 = [] := by
    intro b0 b1 b2 b3 h0 h1 h2 h3 h
    unfold roundBest planInB
    rw [h0, h1, h2, h3, h, if_neg (by simp)]
  refine Ev.bind (l6Ok_ev s ch l hl) ?_
  cases h0 : planOkB s ch l with
  | false => exact Ev.neg (by simp) (stop.eq (no _ _ _ _ h0 rfl rfl rfl (by simp)).symm)
  | true =>
  refine Ev.pos rfl (Ev.bind (l1In_ev _ _ _) ?_)
  cases h1 : betB src 0 (wrap64 (s - 1)) with
  | false => exact Ev.neg (by simp) (stop.eq (no _ _ _ _ h0 h1 rfl rfl (by simp)).symm)
  | true =>
  refine Ev.pos rfl (Ev.bind (l1In_ev _ _ _) ?_)
  cases h2 : betB tg 0 (wrap64 (s - 1)) with
  | false => exact Ev.neg (by simp) (stop.eq (no _ _ _ _ h0 h1 h2 rfl (by simp)).symm)
  | true =>
  refine Ev.pos rfl (Ev.bind (l1In_ev _ _ _) ?_)
  cases h3 : betB t0 0 199 with
  | false => exact stop.eq (no _ _ _ _ h0 h1 h2 h3 (by simp)).symm
  | true =>
  have h : planInB s ch l src t0 = true := by unfold planInB; rw [h0, h1, h3]; rfl
  obtain ⟨ok, hch, hs, ht⟩ := planIn_all h
  have hto := to_in ok h2
  refine Ev.step (fun m => by simp only [spec_RoundBest.j0] <;> rfl) (Ev.neg (by simp) (Ev.bind (l7All_ev ok hch hs ht 6 (by omega)) ?_))
  unfold roundBest
  rw [h, h2, if_pos (by simp)]
  refine downto (P := fun i => Ev (fun m => spec_RoundBest.l0 m tg (rbF (fun k => rd (arrN ch src t0 l s k) tg) i).1 (grid7 ch src t0 l s (6 + 1)) (rbF (fun k => rd (arrN ch src t0 l s k) tg) i).2 (i : Int)) (rbF (fun k => rd (arrN ch src t0 l s k) tg) 7).1) (n := 7) ?_ ?_
  · exact Ev.step (fun m => by simp only [spec_RoundBest.l0]; rw [if_neg (by rw [grid7_len]; omega)]) (Ev.ret _)
  · intro i hi hnext
    have hln := arrN_len (t0 := t0) ok hch hs i
    have hbl := rbF_len (fun k => rd (arrN ch src t0 l s k) tg) i
    refine Ev.step (fun m => by simp only [spec_RoundBest.l0]; rw [if_pos (by rw [grid7_len]; omega), if_pos (by omega), if_pos hto.1, grid7_at (by omega), if_pos (by omega)]) ?_
    simp only [rbF] at hnext
    rw [w64s (by omega)]
    by_cases hc : rd (arrN ch src t0 l s i) tg < (rbF (fun k => rd (arrN ch src t0 l s k) tg) i).2
    · rw [if_pos hc] at hnext
      exact Ev.pos hc (Ev.pos (by omega) hnext)
    · rw [if_neg hc] at hnext
      exact Ev.neg hc hnext
/-! what the journeys are like -/
structure RB (f : Nat → Int) (n : Nat) (L : List Rn) (b : Int) : Prop where
  is_ : ∀ i (h : i < L.length), ∃ k, k < n ∧ L[i] = ⟨(k : Int), f k⟩ ∧ f k < 99999 ∧ ∀ j, j < k → f k < f j
  up : ∀ i (h : i + 1 < L.length), L[i].f0 < L[i + 1].f0 ∧ L[i + 1].f1 < L[i].f1
  none_ : L = [] → b = 99999
  last : ∀ (h : L.length - 1 < L.length), b = (L[L.length - 1]).f1
  low : ∀ j, j < n → b ≤ f j
  far : b ≤ 99999
theorem rbF_rb (f : Nat → Int) : ∀ n, RB f n (rbF f n).1 (rbF f n).2
  | 0 => ⟨fun i h => by simp [rbF] at h, fun i h => by simp [rbF] at h, fun _ => rfl, fun h => by simp [rbF] at h, fun j h => by omega, by simp [rbF]⟩
  | n + 1 => by
    have ih := rbF_rb f n
    simp only [rbF]
    generalize rbF f n = st at ih
    obtain ⟨L, b⟩ := st
    simp only at ih ⊢
    by_cases hc : f n < b
    · rw [if_pos hc]
      refine ⟨fun i h => ?_, fun i h => ?_, fun h => by simp at h, fun h => by simp, fun j hj => ?_, by have := ih.far; simp only; omega⟩
      · simp only [List.length_append, List.length_singleton] at h
        by_cases e : i < L.length
        · obtain ⟨k, h1, h2, h3, h4⟩ := ih.is_ i e
          exact ⟨k, by omega, by simp only [List.getElem_append_left e]; exact h2, h3, h4⟩
        · obtain rfl : i = L.length := by omega
          exact ⟨n, by omega, by simp, by have := ih.far; omega, fun j hj => by have := ih.low j hj; omega⟩
      · simp only [List.length_append, List.length_singleton] at h
        by_cases e : i + 1 < L.length
        · simp only [List.getElem_append_left e, List.getElem_append_left (show i < L.length by omega)]
          exact ih.up i e
        · have hi1 : i < L.length := by omega
          obtain ⟨k, h1, h2, _⟩ := ih.is_ i hi1
          have h3 := ih.last (by omega)
          have e1 : L.length - 1 = i := by omega
          simp only [e1] at h3
          have e2 : (L ++ [(⟨(n : Int), f n⟩ : Rn)])[i + 1] = ⟨(n : Int), f n⟩ := by
            rw [List.getElem_append_right (by omega)]
            simp [show i + 1 - L.length = 0 by omega]
          rw [e2]
          simp only [List.getElem_append_left hi1]
          have h4 : L[i].f0 = (k : Int) := by rw [h2]
          omega
      · by_cases e : j = n
        · subst e; exact Int.le_refl _
        · have := ih.low j (by omega)
          simp only
          omega
    · rw [if_neg hc]
      refine ⟨fun i h => ?_, ih.up, ih.none_, ih.last, fun j hj => ?_, ih.far⟩
      · obtain ⟨k, h1, h2⟩ := ih.is_ i h
        exact ⟨k, by omega, h2⟩
      · by_cases e : j = n
        · subst e; simp only; omega
        · exact ih.low j (by omega)
theorem arrN_mono {s ch : Int} {l : List Cn} {src t0 : Int} (ok : Ok s ch l) (hch : Chain l) (hs : 0 ≤ src ∧ src < s) {v : Int} (h0 : 0 ≤ v) (h1 : v < s) : ∀ i j, i ≤ j → rd (arrN ch src t0 l s j) v ≤ rd (arrN ch src t0 l s i) v :=
  fun i j hij => (arrN_arr ok hch hs j).le ok (fun k hk => hk.lt) (fun k hk => hk.lt) (arrN_arr ok hch hs i) (fun k hk => hk.mono hij) h0 h1
theorem arrN_bnd {s ch : Int} {l : List Cn} {src t0 : Int} (ok : Ok s ch l) (hch : Chain l) (hs : 0 ≤ src ∧ src < s) (ht : t0 ≤ 199) {v : Int} (h0 : 0 ≤ v) (h1 : v < s) (j : Nat) : t0 ≤ rd (arrN ch src t0 l s j) v ∧ rd (arrN ch src t0 l s j) v ≤ 99999 :=
  (arrN_arr ok hch hs j).bnd ok (fun k hk => ⟨hk.lt, hk.late ok hch⟩) ht h0 h1
/-- with so many trips as there are stops one comes as early as with any -/
theorem arrN_fin {s ch : Int} {l : List Cn} {src t0 : Int} (ok : Ok s ch l) (hch : Chain l) (hs : 0 ≤ src ∧ src < s) (ht : t0 ≤ 199) {i j : Nat} (hi : s ≤ i + 1) (hj : s ≤ j + 1) : arrN ch src t0 l s i = arrN ch src t0 l s j :=
  (all_arr ok hch ht (fun j => arrN_arr ok hch hs j) hs i (.inl hi)).uniq ok (fun k ⟨n, h⟩ => h.lt) (fun k ⟨n, h⟩ => h.lt) (all_arr ok hch ht (fun j => arrN_arr ok hch hs j) hs j (.inl hj)) (fun _ => Iff.rfl)
end Go.Proofs.Ytcklifkbodmoaaa.M
