/- FnRoundAll is true of every code: of a drawn timetable, with one trip more one comes no later, and with six as early as with any. -/
import Derived.Test.YtcklifkbodmoaaaPFLawsFnroundall
import Derived.Test.YtcklifkbodmoaaaMRoundAll
import Derived.Test.YtcklifkbodmoaaaMDrawPlan
import Derived.Test.YtcklifkbodmoaaaMWk
import Derived.Test.YtcklifkbodmoaaaPFSpecDrawroundall
set_option linter.unusedVariables false
namespace Go.Proofs.Ytcklifkbodmoaaa.Pure
open Go.RowKit Go.Proofs.Ytcklifkbodmoaaa.P Go.Proofs.Ytcklifkbodmoaaa.M
open Go.Proofs.YtcklifkbodmoaaaV.PrintWords (rd)

theorem drawRoundAll_ev {c : List Int} (hl : c.length ≤ 1048576) (hw : ∀ x ∈ c, (Lit.int .u8 x).wf = true) : ∃ (s ch : Int) (l : List S32) (src t0 most : Int), Ev (fun k => spec_DrawRoundAll.f k c) (s, ch, l, src, t0, most) ∧ 2 ≤ s ∧ s ≤ 5 ∧ l.length ≤ 15 ∧ 0 ≤ src ∧ src < s ∧ 0 ≤ t0 ∧ t0 ≤ 20 ∧ 0 ≤ most ∧ most < 8 := by
  obtain ⟨b, e0, hb⟩ := open_ev hl hw
  obtain ⟨s, ch, l, p, e1, s0, s1, l0, p0, p1⟩ := anyPlan_ev hb
  obtain ⟨r1, e2, _, hr1⟩ := pick_ev (b := b) (p := p) s hb p0 (by omega)
  have hr1 := hr1 (by omega)
  obtain ⟨r3, e4, hr3⟩ := one_ev (b := b) (p := p + 1) [0, 5, 20] hb (by omega) (by omega) (by simp)
  obtain ⟨r2, e3, _, hr2⟩ := pick_ev (b := b) (p := p + 1 + 1) 8 hb (by omega) (by omega)
  have hr2 := hr2 (by omega)
  refine ⟨s, ch, l, r1, r3, r2, ?_, s0, s1, l0, hr1.1, hr1.2, ?_⟩
  · unfold spec_DrawRoundAll.f
    rw [e0]
    simp only [Option.bind_some]
    exact Ev.bind e1 (Ev.bind e2 (Ev.bind e4 (Ev.bind e3 (Ev.ret _))))
  · simp only [List.mem_cons, List.not_mem_nil, or_false] at hr3
    omega
theorem FnRoundAll : laws_FnRoundAll.Pure := by
  intro c _ hl hw
  by_cases hC : (c.length : Int) > 1048576
  · exact ⟨0, by unfold laws_FnRoundAll.f; rw [if_pos hC]⟩
  apply Ev.get
  unfold laws_FnRoundAll.f
  refine Ev.neg hC ?_
  obtain ⟨s, ch, l, src, t0, most, hd, s0, s1, l0, r0, r1, t0l, t0h, m0, m1⟩ := drawRoundAll_ev (by omega) hw
  have hll : l.length ≤ 1048576 := by omega
  have hi := impl_RoundAll_ev s ch l src t0 most hll
  have hs := spec_RoundAll_ev s ch l src t0 most hll
  have hG := roundAll_len s ch l src t0 most
  have hwk := wkGrid_self (roundAll s ch l src t0 most) (by omega) (fun r hr => by have := roundAll_row s ch l src t0 most r hr; omega)
  refine Ev.bind hd (Ev.bind hi (Ev.bind hs (Ev.bind hwk (Ev.pos rfl ?_))))
  by_cases h : (planInB s ch l src t0 && betB most 0 6) = true
  rotate_left
  · have e : roundAll s ch l src t0 most = [] := by unfold roundAll; rw [if_neg h]
    rw [e] at hwk hs ⊢
    refine Ev.step (fun m => by simp only [laws_FnRoundAll.j0] <;> rfl) (Ev.pos (by simp) ?_)
    exact Ev.bind hs (Ev.bind hwk (Ev.ret _))
  · have e : roundAll s ch l src t0 most = grid7 ch src t0 l s (most.toNat + 1) := by unfold roundAll; rw [if_pos h]
    simp only [Bool.and_eq_true, betB_iff] at h
    obtain ⟨hp, hm⟩ := h
    obtain ⟨ok, hch, hsr, ht⟩ := planIn_all hp
    obtain ⟨n, rfl⟩ := Int.eq_ofNat_of_zero_le m0
    rw [Int.toNat_natCast] at e
    rw [e]
    have hA := impl_PlanAll_ev s ch l src t0 hll
    have hall := impl_RoundAll_ev s ch l src t0 6 hll
    have e6 : roundAll s ch l src t0 6 = grid7 ch src t0 l s (6 + 1) := by
      unfold roundAll
      rw [hp, show betB 6 0 6 = true from rfl, if_pos (by simp)]
      rfl
    rw [e6] at hall
    have efin : planAll s ch l src t0 = arrN ch src t0 l s 6 := by
      unfold planAll
      rw [if_pos hp]
      exact arrN_fin ok hch hsr ht.2 (by omega) (by omega)
    rw [efin] at hA
    have hln := fun j => arrN_len (t0 := t0) ok hch hsr j
    have hb0 : (((grid7 ch src t0 l s (n + 1)).length : Int) == 0) = false := by rw [grid7_len]; exact beq_eq_false_iff_ne.mpr (by omega)
    rw [hb0]
    have hgl : (grid7 ch src t0 l s (n + 1)).length = n + 1 := grid7_len _
    have g0 : (0 : Int) = ((0 : Nat) : Int) := rfl
    refine Ev.step (fun m => by simp only [laws_FnRoundAll.j0] <;> rfl) (Ev.neg (by simp) ?_)
    obtain ⟨S, rfl⟩ := Int.eq_ofNat_of_zero_le (show 0 ≤ s by omega)
    refine downto (P := fun k => Ev (fun m => laws_FnRoundAll.l0 m src t0 (n : Int) (grid7 ch src t0 l S (n + 1)) (k : Int) S ch l) true) (n := S) ?_ ?_
    · refine Ev.step (fun m => by simp only [laws_FnRoundAll.l0]; rw [if_neg (by omega)]) (Ev.bind hall ?_)
      have h0 := hln 0
      have e0 : rd_L3 (grid7 ch src t0 l S (n + 1)) 0 = arrN ch src t0 l S 0 := by rw [g0]; exact grid7_at (by omega)
      have e6' : rd_L3 (grid7 ch src t0 l S (6 + 1)) 6 = arrN ch src t0 l S 6 := by rw [show (6 : Int) = ((6 : Nat) : Int) from rfl]; exact grid7_at (by omega)
      rw [e0, e6']
      have hwk6 := wkInts_self (arrN ch src t0 l S 6) (by have := hln 6; omega)
      refine Ev.pos (by rw [w64 (by omega)]; omega) (Ev.pos (by omega) (Ev.pos hsr.1 (Ev.pos (by omega) (Ev.pos ?_ (Ev.pos (by rw [grid7_len]; omega) (Ev.bind hA (Ev.bind hwk6 (Ev.ret _))))))))
      exact (arrN_arr ok hch hsr 0).src_
    · intro k hk hnext
      refine Ev.step (fun m => by simp only [laws_FnRoundAll.l0]; rw [if_pos (by omega)]) ?_
      have key : ∀ u i, 1 ≤ i → i + u = n + 1 → Ev (fun m => laws_FnRoundAll.l1 m src t0 (n : Int) (grid7 ch src t0 l S (n + 1)) (k : Int) (i : Int) S ch l) true := by
        intro u
        induction u with
        | zero =>
          intro i _ hi
          have h0 := hln 0
          have e0 : rd_L3 (grid7 ch src t0 l S (n + 1)) 0 = arrN ch src t0 l S 0 := by rw [g0]; exact grid7_at (by omega)
          refine Ev.step (fun m => by simp only [laws_FnRoundAll.l1]; rw [if_neg (by omega)]) ?_
          rw [e0, w64s (by omega)]
          refine Ev.pos (by omega) (Ev.pos (by omega) (Ev.pos (by omega) ?_))
          by_cases hf : rd (arrN ch src t0 l S 0) (k : Int) = 99999
          · exact Ev.pos hf hnext
          · refine Ev.neg hf (Ev.pos ?_ hnext)
            have := d7_rd (t0 := t0) hsr (v := (k : Int)) (by omega) (by omega)
            by_cases e : (k : Int) = src
            · exact e
            · rw [if_neg e] at this
              exact absurd this hf
        | succ u ih =>
          intro i h1 hi
          have hw : wrap64 ((i : Int) - 1) = ((i - 1 : Nat) : Int) := by rw [w64 (by omega)]; omega
          have hmono := arrN_mono (t0 := t0) ok hch hsr (v := (k : Int)) (by omega) (by omega) (i - 1) i (by omega)
          have ha := hln i
          have hb := hln (i - 1)
          refine Ev.step (fun m => by simp only [laws_FnRoundAll.l1]; rw [if_pos (by omega), if_pos (by omega), if_pos (by omega)]) ?_
          rw [hw, grid7_at (by omega), grid7_at (by omega), w64s (by omega)]
          exact Ev.pos (by omega) (Ev.pos (by omega) (Ev.pos (by omega) (Ev.pos (by omega) (Ev.neg (by omega) (ih (i + 1) (by omega) (by omega))))))
      have := key n 1 (Nat.le_refl _) (by omega)
      exact this
end Go.Proofs.Ytcklifkbodmoaaa.Pure
