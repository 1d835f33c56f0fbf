/- FnReachFar is true of every code: of a drawn net, no best way costs more than the most that is told. -/
import Derived.Test.YtjmpngfgfddpaaaPFLawsFnreachfar
import Derived.Test.YtjmpngfgfddpaaaMReachFar
import Derived.Test.YtjmpngfgfddpaaaMDrawO
set_option linter.unusedVariables false
namespace Go.Proofs.Ytjmpngfgfddpaaa.Pure
open Go.RowKit Go.Proofs.Ytjmpngfgfddpaaa.P Go.Proofs.Ytjmpngfgfddpaaa.M
open Go.Proofs.YtjmpngfgfddpaaaV.PrintWords (rd mx mn)

theorem mx_le {a b : Int} : a ≤ mx a b ∧ b ≤ mx a b ∧ (mx a b = a ∨ mx a b = b) := by
  unfold mx
  split <;> omega
theorem maxFar_spec : ∀ (D : List Int) (b : Int), b ≤ maxFar b D ∧ (∀ x ∈ D, x ≠ 99999 → x ≤ maxFar b D) ∧ (maxFar b D = b ∨ (maxFar b D ∈ D ∧ maxFar b D ≠ 99999))
  | [], b => ⟨Int.le_refl _, fun x hx => (by cases hx), .inl rfl⟩
  | y :: D, b => by
    have e : maxFar b (y :: D) = maxFar (if y = 99999 then b else mx b y) D := rfl
    rw [e]
    obtain ⟨h1, h2, h3⟩ := maxFar_spec D (if y = 99999 then b else mx b y)
    by_cases hy : y = 99999
    · rw [if_pos hy] at h1 h2 h3 ⊢
      refine ⟨h1, fun x hx hf => ?_, ?_⟩
      · rcases List.mem_cons.1 hx with rfl | hx
        · exact absurd hy hf
        · exact h2 x hx hf
      · rcases h3 with h | ⟨h, h'⟩
        · exact .inl h
        · exact .inr ⟨List.mem_cons_of_mem _ h, h'⟩
    · rw [if_neg hy] at h1 h2 h3 ⊢
      obtain ⟨m1, m2, m3⟩ := mx_le (a := b) (b := y)
      refine ⟨by omega, fun x hx hf => ?_, ?_⟩
      · rcases List.mem_cons.1 hx with rfl | hx
        · omega
        · exact h2 x hx hf
      · rcases h3 with h | ⟨h, h'⟩
        · rcases m3 with m | m
          · exact .inl (h.trans m)
          · exact .inr ⟨by rw [h, m]; exact List.mem_cons_self, by rw [h, m]; exact hy⟩
        · exact .inr ⟨List.mem_cons_of_mem _ h, h'⟩
theorem farAll_spec : ∀ (T : List (List Int)) (b : Int), b ≤ farAll b T ∧ (∀ D ∈ T, ∀ x ∈ D, x ≠ 99999 → x ≤ farAll b T) ∧ (farAll b T = b ∨ ∃ D ∈ T, farAll b T ∈ D ∧ farAll b T ≠ 99999)
  | [], b => ⟨Int.le_refl _, fun x hx => (by cases hx), .inl rfl⟩
  | D :: T, b => by
    have e : farAll b (D :: T) = farAll (maxFar b D) T := rfl
    rw [e]
    obtain ⟨h1, h2, h3⟩ := farAll_spec T (maxFar b D)
    obtain ⟨m1, m2, m3⟩ := maxFar_spec D b
    refine ⟨by omega, fun E hE x hx hf => ?_, ?_⟩
    · rcases List.mem_cons.1 hE with rfl | hE
      · have := m2 x hx hf
        omega
      · exact h2 E hE x hx hf
    · rcases h3 with h | ⟨E, hE, h, h'⟩
      · rcases m3 with m | ⟨m, m'⟩
        · exact .inl (h.trans m)
        · exact .inr ⟨D, List.mem_cons_self, by rw [h]; exact m, by rw [h]; exact m'⟩
      · exact .inr ⟨E, List.mem_cons_of_mem _ hE, h, h'⟩
/-- all rows' numbers by their places -/
theorem far_at {n : Nat} {l : List S33} {T : List (List Int)} (hT : Tab n l T) (hn : 0 < n) : (∀ i j : Int, 0 ≤ i → i < n → 0 ≤ j → j < n → rd (rd_L5 T i) j ≠ 99999 → rd (rd_L5 T i) j ≤ farAll 0 T) ∧ ∃ i j : Int, 0 ≤ i ∧ i < n ∧ 0 ≤ j ∧ j < n ∧ rd (rd_L5 T i) j = farAll 0 T ∧ farAll 0 T ≠ 99999 := by
  obtain ⟨h1, h2, h3⟩ := farAll_spec T 0
  have hat : ∀ i j : Int, 0 ≤ i → i < n → 0 ≤ j → j < n → rd_L5 T i ∈ T ∧ rd (rd_L5 T i) j ∈ rd_L5 T i := by
    intro i j i0 i1 j0 j1
    obtain ⟨i, rfl⟩ := Int.eq_ofNat_of_zero_le i0
    obtain ⟨j, rfl⟩ := Int.eq_ofNat_of_zero_le j0
    have hTl := hT.len
    have hl := (hT.row (i : Int) i0 i1).len
    refine ⟨by rw [rdL5_at T i (by omega)]; exact List.getElem_mem _, ?_⟩
    rw [rd_at0 _ j (by omega)]
    exact List.getElem_mem _
  refine ⟨fun i j i0 i1 j0 j1 hf => ?_, ?_⟩
  · obtain ⟨a, b⟩ := hat i j i0 i1 j0 j1
    exact h2 _ a _ b hf
  · rcases h3 with h | ⟨D, hD, h, h'⟩
    · refine ⟨0, 0, Int.le_refl _, by omega, Int.le_refl _, by omega, ?_, by omega⟩
      rw [h]
      exact (hT.row 0 (Int.le_refl _) (by omega)).self ⟨Int.le_refl _, by omega⟩
    · obtain ⟨i, hi, rfl⟩ := List.getElem_of_mem hD
      obtain ⟨j, hj, e⟩ := List.getElem_of_mem h
      have hTl := hT.len
      have hl := (hT.row (i : Int) (by omega) (by omega)).len
      have er := rdL5_at T i hi
      rw [er] at hl
      refine ⟨i, j, by omega, by omega, by omega, by omega, ?_, h'⟩
      rw [er, rd_at0 _ j hj, e]
/-- the greatest of the net turned round -/
theorem far_swap {n : Nat} {l : List S33} {T T' : List (List Int)} (hT : Tab n l T) (hT' : Tab n (l.map swapA) T') (hn : 0 < n) : farAll 0 T' = farAll 0 T := by
  obtain ⟨a1, i, j, i0, i1, j0, j1, e, f⟩ := far_at hT hn
  obtain ⟨b1, i', j', i0', i1', j0', j1', e', f'⟩ := far_at hT' hn
  have r1 := dist_rev (hT.row i i0 i1) (hT'.row j j0 j1) ⟨i0, i1⟩ ⟨j0, j1⟩
  have r2 := dist_rev (hT.row j' j0' j1') (hT'.row i' i0' i1') ⟨j0', j1'⟩ ⟨i0', i1'⟩
  have q1 := b1 j i j0 j1 i0 i1 (by omega)
  have q2 := a1 j' i' j0' j1' i0' i1' (by omega)
  omega
theorem impl_reachFar_ok {nodes : Int} {l : List S33} (h : netOkB nodes l = true) {T : List (List Int)} (hE : Ev (fun k => impl_Net_table.f k nodes l) T) (hT : Tab nodes.toNat l T) : Ev (fun k => impl_ReachFar.f k nodes l) (farAll 0 T) := by
  obtain ⟨n1, n2, n3⟩ := Good.nodes h
  have hTl := hT.len
  unfold impl_ReachFar.f impl_NetOk.f
  simp only [Option.bind_some]
  refine Ev.pos h (Ev.bind hE ?_)
  refine impl_far_ev T (by omega) (fun D hm => ?_)
  obtain ⟨i, hi, rfl⟩ := List.getElem_of_mem hm
  have := (hT.row (i : Int) (by omega) (by omega)).len
  rw [rdL5_at T i hi] at this
  omega
theorem FnReachFar : laws_FnReachFar.Pure := by
  intro c _ hl hw
  by_cases hC : (c.length : Int) > 1048576
  · exact ⟨0, by unfold laws_FnReachFar.f; rw [if_pos hC]⟩
  apply Ev.get
  unfold laws_FnReachFar.f
  refine Ev.neg hC ?_
  obtain ⟨n, l, hd, l0⟩ := drawReachFar_ev (by omega) hw
  have hll : l.length ≤ 1048576 := by omega
  by_cases h : netOkB n l = true
  rotate_left
  · obtain ⟨r, hi, hs⟩ := reachFar_ev n l hll
    have hb : Ev (fun k => impl_ReachFar.f k n l) (-1) := by
      unfold impl_ReachFar.f impl_NetOk.f
      simp only [Option.bind_some]
      exact Ev.neg h (Ev.ret _)
    have hsb : Ev (fun k => spec_ReachFar.f k n l) (-1) := by
      unfold spec_ReachFar.f
      exact Ev.bind (l1Ok_netOkB n l (by omega)) (Ev.neg h (Ev.ret _))
    refine Ev.bind hd (Ev.bind hb (Ev.bind hsb (Ev.pos rfl ?_)))
    refine Ev.step (fun k => by simp only [laws_FnReachFar.j0]; rfl) ?_
    exact Ev.pos (by decide) (Ev.bind hsb (Ev.ret _))
  · obtain ⟨n1, n2, n3⟩ := Good.nodes h
    obtain ⟨T, e1, e2, e3⟩ := tab_ev h
    have hsw : netOkB n (l.map swapA) = true := by rw [netOk_swap]; exact h
    obtain ⟨T', f1, f2, f3⟩ := tab_ev hsw
    obtain ⟨N, rfl⟩ := Int.eq_ofNat_of_zero_le (show 0 ≤ n by omega)
    simp only [Int.toNat_natCast] at e2 f2
    obtain ⟨a1, i0, j0, p0, p1, p2, p3, p4, p5⟩ := far_at e2 (by omega)
    have hsp : Ev (fun k => spec_ReachFar.f k N l) (farAll 0 T) := by
      obtain ⟨r, hi, hs⟩ := reachFar_ev (N : Int) l hll
      have hi2 := impl_reachFar_ok h e1 (by simpa using e2)
      obtain ⟨k1, g1⟩ := hi
      obtain ⟨k2, g2⟩ := hi2
      have := (g1 (k1 + k2) (by omega)).symm.trans (g2 (k1 + k2) (by omega))
      cases this
      exact hs
    have him := impl_reachFar_ok h e1 (by simpa using e2)
    have hbk := impl_reachFar_ok hsw f1 (by simpa using f2)
    rw [far_swap e2 f2 (by omega)] at hbk
    have hge : 0 ≤ farAll 0 T := (farAll_spec T 0).1
    refine Ev.bind hd (Ev.bind him (Ev.bind hsp (Ev.pos rfl ?_)))
    rw [show decide (farAll 0 T < 0) = false from decide_eq_false (by omega)]
    refine Ev.step (fun k => by simp only [laws_FnReachFar.j0]; rfl) (Ev.neg (by simp) ?_)
    have hTl := e2.len
    classical
    let met : Nat → Nat → Bool := fun a k => decide (∃ i j : Int, 0 ≤ i ∧ 0 ≤ j ∧ j < N ∧ (i < a ∨ (i = a ∧ j < k)) ∧ rd (rd_L5 T i) j = farAll 0 T)
    have hm0 : met 0 0 = false := by
      simp only [met, decide_eq_false_iff_not]
      rintro ⟨i, j, q⟩
      omega
    have hmN : met N 0 = true := by
      simp only [met, decide_eq_true_eq]
      exact ⟨i0, j0, p0, p2, p3, .inl p1, p4⟩
    have hms : ∀ a k : Nat, k < N → met a (k + 1) = (met a k || (rd (rd_L5 T (a : Int)) (k : Int) == farAll 0 T)) := by
      intro a k hk
      apply Bool.eq_iff_iff.2
      simp only [met, decide_eq_true_eq, Bool.or_eq_true, beq_iff_eq]
      constructor
      · rintro ⟨i, j, q0, q1, q2, q3, q4⟩
        by_cases e : i = a ∧ j = k
        · obtain ⟨rfl, rfl⟩ := e
          exact .inr q4
        · exact .inl ⟨i, j, q0, q1, q2, by omega, q4⟩
      · rintro (⟨i, j, q0, q1, q2, q3, q4⟩ | q)
        · exact ⟨i, j, q0, q1, q2, by omega, q4⟩
        · exact ⟨a, k, by omega, by omega, by omega, by omega, q⟩
    have hme : ∀ a : Nat, met a N = met (a + 1) 0 := by
      intro a
      apply Bool.eq_iff_iff.2
      simp only [met, decide_eq_true_eq]
      constructor
      · rintro ⟨i, j, q0, q1, q2, q3, q4⟩
        exact ⟨i, j, q0, q1, q2, by omega, q4⟩
      · rintro ⟨i, j, q0, q1, q2, q3, q4⟩
        exact ⟨i, j, q0, q1, q2, by omega, q4⟩
    have key := downto (P := fun a => Ev (fun k => laws_FnReachFar.l0 k (farAll 0 T) (met a 0) (a : Int) N l) true) (n := N) ?_ ?_
    · rw [hm0] at key
      exact key
    · rw [hmN]
      refine Ev.step (fun k => by simp only [laws_FnReachFar.l0]; rw [if_neg (by omega)]) ?_
      exact Ev.pos (by trivial) (Ev.bind (netBack_ev h) (Ev.bind hbk ((Ev.ret _).eq (by simp))))
    · intro a ha hnext
      have hrow := e2.row (a : Int) (by omega) (by omega)
      have hlen := hrow.len
      refine Ev.step (fun k => by simp only [laws_FnReachFar.l0]; rw [if_pos (by omega)]) ?_
      refine Ev.bind (nearAll_ev h ((inB_iff ⟨n1, n2⟩).2 ⟨by omega, by omega⟩) (e3 (a : Int) (by omega) (by omega)).1) ?_
      refine downto (P := fun j => Ev (fun k => laws_FnReachFar.l1 k (farAll 0 T) (met a j) (a : Int) (rd_L5 T (a : Int)) (j : Int) N l) true) (n := N) ?_ ?_
      · refine Ev.step (fun k => ?_) hnext
        simp only [laws_FnReachFar.l1]
        rw [if_neg (by omega), w64s (by omega), hme]
      · intro j hj hn2
        have hle := a1 (a : Int) (j : Int) (by omega) (by omega) (by omega) (by omega)
        have hb := hrow.leFar (y := (j : Int)) (by omega) (by omega)
        rw [hms a j hj] at hn2
        refine Ev.step (fun k => ?_) hn2
        simp only [laws_FnReachFar.l1]
        rw [if_pos (by omega), if_pos (by omega), if_pos (by omega), w64s (by omega)]
        by_cases hf : rd (rd_L5 T (a : Int)) (j : Int) < 99999
        · rw [if_pos hf, if_neg (by have := hle (by omega); omega)]
          cases met a j <;> simp
        · rw [if_neg hf]
          cases met a j <;> simp
end Go.Proofs.Ytjmpngfgfddpaaa.Pure
