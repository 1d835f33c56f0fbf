/- FnMarkPick is true of every code: each mark is a node that is not ahead, and fewer are the first of more. -/
import Derived.Test.YtblpdfgplifccaaPFLawsFnmarkpick
import Derived.Test.YtblpdfgplifccaaMPick
import Derived.Test.YtblpdfgplifccaaMDrawK
import Derived.Test.YtblpdfgplifccaaMWk
set_option linter.unusedVariables false
namespace Go.Proofs.Ytblpdfgplifccaa.Pure
open Go.RowKit Go.Proofs.Ytblpdfgplifccaa.P Go.Proofs.Ytblpdfgplifccaa.M
open Go.Proofs.YtblpdfgplifccaaV.PrintWords (rd)

theorem wkIn_ev (o : List Int) (v : Int) (ho : o.length ≤ 1000000) : Ev (fun k => laws_wkIn.f k o v) (o.contains v) :=
  mem_loop (F := fun k i => laws_wkIn.l0 k o v i) ho (fun k i => by
    simp only [laws_wkIn.l0]
    by_cases h : (i : Int) < (o.length : Int)
    · rw [if_pos h, if_pos h, if_pos (by omega)]
    · rw [if_neg h, if_neg h])
theorem FnMarkPick : laws_FnMarkPick.Pure := by
  intro c _ hl hw
  by_cases hC : (c.length : Int) > 1048576
  · exact ⟨0, by unfold laws_FnMarkPick.f; rw [if_pos hC]⟩
  apply Ev.get
  unfold laws_FnMarkPick.f
  refine Ev.neg hC ?_
  obtain ⟨n, l, m, hd, l0, m0⟩ := drawMarkPick_ev (by omega) hw
  by_cases h : netOkB n l = true ∧ 0 ≤ m ∧ m ≤ n
  rotate_left
  · obtain ⟨hi, hs⟩ := pick_bad (by omega) h
    have hk := wkInts_self [] (by simp)
    refine Ev.bind hd (Ev.bind hi (Ev.bind hs (Ev.bind hk (Ev.pos rfl ?_))))
    have hend : Ev (fun k => laws_FnMarkPick.j0 k m [] true n l) true := by
      refine Ev.step (fun k => by simp only [laws_FnMarkPick.j0]; rw [if_pos trivial]) ?_
      exact Ev.bind hs (Ev.bind hk (Ev.ret _))
    refine Ev.bind (Ev.ret (netOkB n l)) ?_
    cases hb : netOkB n l with
    | false => exact Ev.neg (by decide) hend
    | true =>
      refine Ev.pos rfl ?_
      have : decide (m > n) = true := decide_eq_true (Int.not_le.1 (fun x => h ⟨hb, m0, x⟩))
      simp only
      rw [this]
      exact hend
  · obtain ⟨n1, n2, n3⟩ := Good.nodes h.1
    obtain ⟨T, e1, e2, e3⟩ := tab_ev h.1
    have e4 := fun (i : Int) (x : 0 ≤ i) (y : i < n) => (e3 i x y).2
    obtain ⟨R, hR, hRl, hP⟩ := outN_some (n := n.toNat) (by omega) e2.tb m.toNat (by omega)
    obtain ⟨hi, hs⟩ := pick_ok h.1 h.2 e1 e2 e4 (by omega) hR
    have hk := wkInts_self R (by omega)
    refine Ev.bind hd (Ev.bind hi (Ev.bind hs (Ev.bind hk (Ev.pos rfl (Ev.bind (Ev.ret (netOkB n l)) (Ev.pos h.1 ?_))))))
    have hdm : decide (m > n) = false := decide_eq_false (by omega)
    simp only
    rw [hdm]
    refine Ev.step (fun k => by simp only [laws_FnMarkPick.j0]; rw [if_neg (by decide)]) ?_
    have hQ := downto (P := fun i => Ev (fun k => laws_FnMarkPick.l0 k m R (i : Int) n l) true) (n := R.length) ?_ ?_
    · exact hQ
    · have hml : (R.length : Int) = m := by omega
      by_cases hz : m = 0
      · refine Ev.step (G := fun _ => some true) (fun k => ?_) (Ev.ret _)
        simp only [laws_FnMarkPick.l0]
        rw [if_neg (by omega), if_pos hml, if_pos hz]
      · have hw1 : wrap64 (m - 1) = m - 1 := w64 (by omega)
        obtain ⟨q, hq⟩ : ∃ q, m.toNat = q + 1 := ⟨m.toNat - 1, by omega⟩
        rw [hq] at hR
        have hR2 := outN_take hR
        have hq2 : (m - 1).toNat = q := by omega
        obtain ⟨hi2, _⟩ := pick_ok (many := m - 1) h.1 ⟨by omega, by omega⟩ e1 e2 e4 (by omega) (R := R.take q) (by rw [hq2]; exact hR2)
        have hk2 := wkInts_self (R.take q) (by rw [List.length_take]; omega)
        refine Ev.step (G := fun k => (impl_MarkPick.f k n l (m - 1)).bind fun t127 => (if 0 ≤ m - 1 then (if m - 1 ≤ (R.length : Int) then ((laws_wkInts.f k t127 (R.take (m - 1).toNat)).bind fun t134 => (some t134)) else (none)) else (none))) (fun k => ?_) ?_
        · simp only [laws_FnMarkPick.l0]
          rw [if_neg (by omega), if_pos hml, if_neg hz, hw1]
        · refine Ev.bind hi2 (Ev.pos (by omega) (Ev.pos (by omega) ?_))
          rw [hq2]
          exact Ev.bind hk2 (Ev.ret _)
    · intro i hi2 hnext
      obtain ⟨p0, p1, p2⟩ := hP i hi2
      refine Ev.step (fun k => by simp only [laws_FnMarkPick.l0]; rw [if_pos (by omega), if_pos (by omega), if_pos (by omega)]) ?_
      have hwk := wkIn_ev (R.take i) (rd R (i : Int)) (by rw [List.length_take]; omega)
      rw [p2] at hwk
      simp only [Int.toNat_natCast]
      refine Ev.bind hwk (Ev.neg (by decide) (Ev.neg (by omega) (Ev.neg (by omega) ?_)))
      rw [w64s (by omega)]
      exact hnext
end Go.Proofs.Ytblpdfgplifccaa.Pure
