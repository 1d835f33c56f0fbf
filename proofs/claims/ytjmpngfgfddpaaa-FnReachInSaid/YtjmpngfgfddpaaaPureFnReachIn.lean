/- FnReachIn is true of every code: within reach are just those whose best way costs no more than the bound. -/
import Derived.Test.YtjmpngfgfddpaaaPFLawsFnreachin
import Derived.Test.YtjmpngfgfddpaaaMReachIn
import Derived.Test.YtjmpngfgfddpaaaMNearAll
import Derived.Test.YtjmpngfgfddpaaaMDrawI
import Derived.Test.YtjmpngfgfddpaaaMWk
set_option linter.unusedVariables false
namespace Go.Proofs.Ytjmpngfgfddpaaa.Pure
open Go.RowKit Go.Proofs.Ytjmpngfgfddpaaa.P Go.Proofs.Ytjmpngfgfddpaaa.M
open Go.Proofs.YtjmpngfgfddpaaaV.PrintWords (rd)

theorem wkIn_ev (xs : List Int) (v : Int) (hl : xs.length ≤ 4611686018427387904) : Ev (fun k => laws_wkIn.f k xs v) (decide (v ∈ xs)) := by
  show Ev (fun k => laws_wkIn.l0 k xs v 0) _
  refine downto (P := fun i => Ev (fun k => laws_wkIn.l0 k xs v (i : Int)) (decide (v ∈ xs.drop i))) (n := xs.length) ?_ ?_
  · refine Ev.step (G := fun _ => some false) (fun k => ?_) ((Ev.ret _).eq ?_)
    · simp only [laws_wkIn.l0]
      rw [if_neg (by omega)]
    · simp
  · intro i hi h
    rw [List.drop_eq_getElem_cons hi]
    by_cases hv : xs[i] = v
    · refine Ev.step (G := fun _ => some true) (fun k => ?_) ((Ev.ret _).eq ?_)
      · simp only [laws_wkIn.l0]
        rw [if_pos (by omega), if_pos (by omega), rd_at0 xs i hi, if_pos hv]
      · simp [hv]
    · refine Ev.step (fun k => ?_) (h.eq ?_)
      · simp only [laws_wkIn.l0]
        rw [if_pos (by omega), if_pos (by omega), rd_at0 xs i hi, if_neg hv, w64s (by omega)]
      · have : ¬ v = xs[i] := fun e => hv e.symm
        rw [decide_eq_decide, List.mem_cons]
        exact ⟨.inr, fun e => e.resolve_left this⟩
theorem FnReachIn : laws_FnReachIn.Pure := by
  intro c _ hl hw
  by_cases hC : (c.length : Int) > 1048576
  · exact ⟨0, by unfold laws_FnReachIn.f; rw [if_pos hC]⟩
  apply Ev.get
  unfold laws_FnReachIn.f
  refine Ev.neg hC ?_
  obtain ⟨n, l, s, b, hd, l0, b0, b1, s0⟩ := drawReachIn_ev (by omega) hw
  cases h : (netOkB n l && inB n s) with
  | false =>
    obtain ⟨hi, hs⟩ := reachIn_bad (nodes := n) (s := s) (l := l) (by omega) b h
    have hk := wkInts_self [] (by simp)
    have hj : Ev (fun k => laws_FnReachIn.j0 k s b [] true n l) true := Ev.step (fun k => by simp only [laws_FnReachIn.j0]; rfl) (Ev.pos (by first | rfl | trivial) (Ev.bind hs (Ev.bind hk (Ev.ret _))))
    refine Ev.bind hd (Ev.bind hi (Ev.bind hs (Ev.bind hk (Ev.pos rfl ?_))))
    unfold impl_NetOk.f
    simp only [Option.bind_some]
    by_cases h1 : netOkB n l = true
    · obtain ⟨n1, n2, n3⟩ := Good.nodes h1
      rw [h1, Bool.true_and] at h
      refine Ev.pos h1 ?_
      by_cases h2 : s < 0
      · exact Ev.pos h2 hj
      · have h3 : ¬ (0 ≤ s ∧ s < n) := fun e => by
          rw [(inB_iff ⟨n1, n2⟩).2 e] at h
          cases h
        have h4 : decide (s ≥ n) = true := by simp; omega
        refine Ev.neg h2 ?_
        rw [h4]
        exact hj
    · exact Ev.neg h1 hj
  | true =>
    simp only [Bool.and_eq_true] at h
    obtain ⟨h1, h2⟩ := h
    obtain ⟨n1, n2, n3⟩ := Good.nodes h1
    have hs := (inB_iff ⟨n1, n2⟩).1 h2
    obtain ⟨D, e1, e2, e3⟩ := from_dist h1 hs
    obtain ⟨hI, hS⟩ := reachIn_ok h1 h2 b e1 e2 e3
    obtain ⟨hI1, _⟩ := reachIn_ok h1 h2 (b + 1) e1 e2 e3
    have hlen := inL_len D b n.toNat
    have hmore := inL_more D (show b ≤ b + 1 by omega) n.toNat
    have hmem := fun v => inL_mem D b v n.toNat
    have hk := wkInts_self (inL D b n.toNat) (by omega)
    have hDl := e3.len
    have hself := e3.self (s := s) ⟨hs.1, by omega⟩
    refine Ev.bind hd (Ev.bind hI (Ev.bind hS (Ev.bind hk (Ev.pos rfl ?_))))
    unfold impl_NetOk.f
    simp only [Option.bind_some]
    have h4 : decide (s ≥ n) = false := by simp; omega
    refine Ev.pos h1 (Ev.neg (by omega) ?_)
    rw [h4]
    refine Ev.step (fun k => by simp only [laws_FnReachIn.j0]; rfl) (Ev.neg (by simp) (Ev.bind (nearAll_ev h1 h2 e1) ?_))
    generalize inL D b n.toNat = R at hlen hmore hmem
    have hP := downto (P := fun v => Ev (fun k => laws_FnReachIn.l0 k s b R D (v : Int) n l) true) (n := n.toNat) ?_ ?_
    · simpa using hP
    · refine Ev.step (fun k => by simp only [laws_FnReachIn.l0]; rw [if_neg (by omega), w64 (show -9223372036854775808 ≤ b + 1 ∧ b + 1 ≤ 9223372036854775807 by omega)]) ?_
      refine Ev.bind hI1 (Ev.pos (by omega) (Ev.bind (wkIn_ev R s (by omega)) ((Ev.ret _).eq ?_)))
      obtain ⟨m, rfl⟩ := Int.eq_ofNat_of_zero_le hs.1
      have hm := hmem m
      by_cases hb : 0 ≤ b
      · have : (m : Int) ∈ R := hm.2 ⟨by omega, by omega, by omega⟩
        simp [this, hb]
      · have : ¬ (m : Int) ∈ R := fun e => by have := hm.1 e; omega
        simp [this, hb]
    · intro v hv hnext
      have hm := hmem v
      refine Ev.step (fun k => by simp only [laws_FnReachIn.l0]; rw [if_pos (show (v : Int) < n by omega)]) ?_
      refine Ev.bind (wkIn_ev R v (by omega)) (Ev.pos (by omega) (Ev.pos (by omega) ?_))
      rw [w64s (by omega)]
      by_cases hf : rd D (v : Int) < 99999
      · refine Ev.pos hf (Ev.neg ?_ hnext)
        by_cases hb : rd D (v : Int) ≤ b
        · have : (v : Int) ∈ R := hm.2 ⟨hv, hf, hb⟩
          simp [this, hb]
        · have : ¬ (v : Int) ∈ R := fun e => hb (hm.1 e).2.2
          simp [this, hb]
      · refine Ev.neg hf (Ev.neg ?_ hnext)
        have : ¬ (v : Int) ∈ R := fun e => hf (hm.1 e).2.1
        simp [this]
end Go.Proofs.Ytjmpngfgfddpaaa.Pure
