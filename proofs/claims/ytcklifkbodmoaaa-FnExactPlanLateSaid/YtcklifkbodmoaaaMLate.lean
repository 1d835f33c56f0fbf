/- A timetable in which a trip is late: the connections laid in one by one, each behind those that go no later. -/
import Derived.Test.YtcklifkbodmoaaaMPlanOk
import Derived.Test.YtcklifkbodmoaaaMInsG
import Derived.Test.YtcklifkbodmoaaaPFSpecPlanlate
set_option linter.unusedVariables false
namespace Go.Proofs.Ytcklifkbodmoaaa.M
open Go.RowKit Go.Proofs.Ytcklifkbodmoaaa.P Go.Proofs.YtcklifkbodmoaaaV.PrintWords Go.Proofs.YtcklifkbodmoaaaV.PrintMore
def shiftC (trip late : Int) (c : Co) : Co := if c.f4 = trip then ⟨c.f0, c.f1, c.f2 + late, c.f3 + late, c.f4⟩ else c
def lateL (trip late : Int) (l : List Co) : List Co := l.foldl (fun acc c => insG (shiftC trip late c) acc) []
theorem lateL_len (trip late : Int) (l : List Co) : (lateL trip late l).length = l.length := by
  unfold lateL
  have : ∀ (l acc : List Co), (l.foldl (fun acc c => insG (shiftC trip late c) acc) acc).length = acc.length + l.length := by
    intro l
    induction l with
    | nil => intro acc; simp
    | cons x l ih => intro acc; rw [List.foldl_cons, ih, insG_length, List.length_cons]; omega
  rw [this]
  simp
theorem rdC_at (l : List Co) (i : Nat) (hi : i < l.length) : rd_T32 l (i : Int) = l[i] := by
  simp [rd_T32, List.getD, hi]
theorem late_l1 {trip late n ch r1 r2 : Int} {l acc : List Co} {i : Nat} {c : Co} {r : Int × Int × List Co × Bool} (hl : acc.length ≤ 100) (hi : i ≤ 100)
    (h : Ev (fun k => spec_PlanLate.l0 k trip late ((i + 1 : Nat) : Int) n ch l r1 r2 (insG c acc)) r) :
    Ev (fun k => spec_PlanLate.l1 k trip late (i : Int) 0 n ch l r1 r2 acc c.f0 c.f1 c.f2 c.f3 c.f4) r := by
  have lay : ∀ j, j ≤ acc.length → (∀ t (ht : t < acc.length), t < j → acc[t].f2 ≤ c.f2) → (∀ hj : j < acc.length, ¬ acc[j].f2 ≤ c.f2) → (([] ++ acc.take j) ++ [(⟨c.f0, c.f1, c.f2, c.f3, c.f4⟩ : Co)]) ++ acc.drop j = insG c acc := by
    intro j hj h1 h2
    rw [insG_split c acc j hj h1 h2]
    simp
  have key := downto (P := fun j => (∀ t (ht : t < acc.length), t < j → acc[t].f2 ≤ c.f2) → Ev (fun k => spec_PlanLate.l1 k trip late (i : Int) (j : Int) n ch l r1 r2 acc c.f0 c.f1 c.f2 c.f3 c.f4) r) (n := acc.length) ?_ ?_
  · exact key (fun t _ ht => absurd ht (Nat.not_lt_zero _))
  · intro hall
    have e := lay acc.length (Nat.le_refl _) hall (fun h => absurd h (Nat.lt_irrefl _))
    refine Ev.step (fun k => ?_) h
    simp only [spec_PlanLate.l1]
    rw [if_neg (by omega)]
    simp only [Option.bind_some, Int.toNat_natCast]
    rw [if_pos (by omega), if_pos (by omega), if_pos (by simp; omega), if_pos (by simp; omega), if_pos (by simp; omega), e, w64s (by omega)]
  · intro j hj hnext hall
    by_cases hc : acc[j].f2 ≤ c.f2
    · refine Ev.step (fun k => ?_) (hnext (fun t ht htj => by
        by_cases e : t = j
        · subst e; exact hc
        · exact hall t ht (by omega)))
      simp only [spec_PlanLate.l1]
      rw [if_pos (by omega), if_pos (by omega), rdC_at acc j hj, if_pos hc, w64s (by omega)]
    · have e := lay j (by omega) hall (fun _ => hc)
      refine Ev.step (fun k => ?_) h
      simp only [spec_PlanLate.l1]
      rw [if_pos (by omega), if_pos (by omega), rdC_at acc j hj, if_neg hc]
      simp only [Option.bind_some, Int.toNat_natCast]
      rw [if_pos (by omega), if_pos (by simp; omega), if_pos (by simp; omega), if_pos (by simp; omega), e, w64s (by omega)]
theorem lateL_snoc (trip late : Int) (l : List Co) (i : Nat) (hi : i < l.length) : lateL trip late (l.take (i + 1)) = insG (shiftC trip late l[i]) (lateL trip late (l.take i)) := by
  unfold lateL
  rw [List.take_add_one, List.getElem?_eq_getElem hi, List.foldl_append]
  rfl
def planLate (n ch : Int) (l : List Co) (trip late : Int) : Int × Int × List Co × Bool :=
  if planOkB n ch l = true ∧ (0 ≤ trip ∧ trip ≤ 5) ∧ (0 ≤ late ∧ late ≤ 199) then (if planOkB n ch (lateL trip late l) = true then (n, ch, lateL trip late l, true) else (0, 0, [], false)) else (0, 0, [], false)
theorem late_l0 {trip late n ch : Int} {l : List Co} (hl : l.length ≤ 16) (ht : 0 ≤ late ∧ late ≤ 199) (hv : ∀ x ∈ l, 0 ≤ x.f2 ∧ x.f2 ≤ 199 ∧ 0 ≤ x.f3 ∧ x.f3 ≤ 199) :
    Ev (fun k => spec_PlanLate.l0 k trip late 0 n ch l n ch []) (if planOkB n ch (lateL trip late l) = true then (n, ch, lateL trip late l, true) else (0, 0, [], false)) := by
  have hlen := lateL_len trip late l
  refine downto (P := fun i => Ev (fun k => spec_PlanLate.l0 k trip late (i : Int) n ch l n ch (lateL trip late (l.take i))) (if planOkB n ch (lateL trip late l) = true then (n, ch, lateL trip late l, true) else (0, 0, [], false))) (n := l.length) ?_ ?_
  · rw [List.take_length]
    refine Ev.step (fun k => by simp only [spec_PlanLate.l0]; rw [if_neg (by omega)]) (Ev.bind (l6Ok_ev n ch (lateL trip late l) (by omega)) ?_)
    by_cases h : planOkB n ch (lateL trip late l) = true
    · rw [h]
      exact Ev.pos rfl (Ev.ret _)
    · rw [Bool.eq_false_iff.2 h]
      exact Ev.neg (by simp) (Ev.ret _)
  · intro i hi hnext
    have hv' := hv l[i] (List.getElem_mem hi)
    rw [lateL_snoc trip late l i hi] at hnext
    have hlt := lateL_len trip late (l.take i)
    rw [List.length_take] at hlt
    have h1 := late_l1 (c := shiftC trip late l[i]) (i := i) (by omega) (by omega) hnext
    by_cases ht4 : l[i].f4 = trip
    · have e : shiftC trip late l[i] = ⟨l[i].f0, l[i].f1, l[i].f2 + late, l[i].f3 + late, l[i].f4⟩ := if_pos ht4
      rw [e] at h1
      refine Ev.step (fun k => by simp only [spec_PlanLate.l0]; rw [if_pos (by omega), if_pos (by omega), rdC_at l i hi, if_pos ht4, w64 (n := l[i].f2 + late) (by omega), w64 (n := l[i].f3 + late) (by omega)]) ?_
      exact Ev.step (fun k => by simp only [spec_PlanLate.j2]) h1
    · have e : shiftC trip late l[i] = l[i] := if_neg ht4
      rw [e] at h1
      refine Ev.step (fun k => by simp only [spec_PlanLate.l0]; rw [if_pos (by omega), if_pos (by omega), rdC_at l i hi, if_neg ht4]) ?_
      exact Ev.step (fun k => by simp only [spec_PlanLate.j2]) h1
theorem spec_planLate_ev (n ch : Int) (l : List Co) (trip late : Int) (hl : l.length ≤ 1048576) : Ev (fun k => spec_PlanLate.f k n ch l trip late) (planLate n ch l trip late) := by
  have h1 := l6Ok_ev n ch l hl
  have stop : Ev (fun k => spec_PlanLate.j0 k trip late true n ch l) (0, 0, [], false) := Ev.step (fun k => by simp only [spec_PlanLate.j0]; rfl) (Ev.pos (by first | rfl | trivial | simp) (Ev.ret _))
  unfold planLate
  by_cases h : planOkB n ch l = true
  rotate_left
  · rw [if_neg (fun x => h x.1)]
    rw [Bool.eq_false_iff.2 h] at h1
    exact Ev.bind h1 (Ev.neg (by simp) stop)
  · rw [h] at h1
    have e2 : Ev (fun _ : Nat => spec_l1In.f trip 0 5) (betB trip 0 5) := Ev.of (fun _ => l1In_le _ _ _)
    have e3 : Ev (fun _ : Nat => spec_l1In.f late 0 199) (betB late 0 199) := Ev.of (fun _ => l1In_le _ _ _)
    by_cases ht : 0 ≤ trip ∧ trip ≤ 5
    · have b2 : betB trip 0 5 = true := by simp [betB, ht.1, ht.2]
      rw [b2] at e2
      by_cases hla : 0 ≤ late ∧ late ≤ 199
      · have b3 : betB late 0 199 = true := by simp [betB, hla.1, hla.2]
        rw [b3] at e3
        rw [if_pos ⟨h, ht, hla⟩]
        refine Ev.bind h1 (Ev.pos rfl (Ev.bind e2 (Ev.pos rfl (Ev.bind e3 ?_))))
        refine Ev.step (fun k => by simp only [spec_PlanLate.j0]; rfl) (Ev.neg (by simp) ?_)
        have ok := (planOk_ok h).1
        exact late_l0 ok.len hla (fun x hx => by
          obtain ⟨k, hk, rfl⟩ := List.getElem_of_mem hx
          have := ok.at_ k hk
          have e : cn l k = l[k] := by simp [cn, List.getD, hk]
          rw [e] at this
          omega)
      · have b3 : betB late 0 199 = false := by
          rw [Bool.eq_false_iff]
          simp only [betB, ne_eq, Bool.and_eq_true, decide_eq_true_eq]
          exact hla
        rw [b3] at e3
        rw [if_neg (fun x => hla x.2.2)]
        exact Ev.bind h1 (Ev.pos rfl (Ev.bind e2 (Ev.pos rfl (Ev.bind e3 stop))))
    · have b2 : betB trip 0 5 = false := by
        rw [Bool.eq_false_iff]
        simp only [betB, ne_eq, Bool.and_eq_true, decide_eq_true_eq]
        exact ht
      rw [b2] at e2
      rw [if_neg (fun x => ht x.2.1)]
      exact Ev.bind h1 (Ev.pos rfl (Ev.bind e2 (Ev.neg (by simp) stop)))
end Go.Proofs.Ytcklifkbodmoaaa.M
