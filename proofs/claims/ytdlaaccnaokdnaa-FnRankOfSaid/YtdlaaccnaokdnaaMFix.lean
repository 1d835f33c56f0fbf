/- Plain law of nets with costs: relaxing (cost, arcs) until nothing changes. -/
import Derived.Test.YtdlaaccnaokdnaaMWalk
set_option linter.unusedVariables false
namespace Go.Proofs.Ytdlaaccnaokdnaa.M
open Go.RowKit Go.Proofs.Ytdlaaccnaokdnaa.P Go.Proofs.YtdlaaccnaokdnaaV.PrintWords Go.Proofs.YtdlaaccnaokdnaaV.PrintMore

abbrev Ms := S134
/-- a node's measure -/
def ms (d : List Ms) (y : Int) : Ms := d.getD y.toNat ⟨0, 0⟩
def lessM (c k c' k' : Int) : Bool := if c < c' then true else if c = c' then decide (k < k') else false
/-- one arc of the net turned round: the measure at its end from that at its start -/
def stepM (st : List Ms × Bool) (a : S61) : List Ms × Bool :=
  if (ms st.1 a.f0).f0 = 99999 then st
  else if lessM ((ms st.1 a.f0).f0 + a.f2) ((ms st.1 a.f0).f1 + 1) (ms st.1 a.f1).f0 (ms st.1 a.f1).f1 = true then (st.1.set a.f1.toNat ⟨(ms st.1 a.f0).f0 + a.f2, (ms st.1 a.f0).f1 + 1⟩, true) else st
def passM (l : List S61) (st : List Ms × Bool) : List Ms × Bool := l.foldl stepM st
def sumC : List Ms → Int
  | [] => 0
  | x :: d => x.f0 + sumC d
def sumK : List Ms → Int
  | [] => 0
  | x :: d => x.f1 + sumK d
theorem sumC_set : ∀ (d : List Ms) (i : Nat) (x : Ms), i < d.length → sumC (d.set i x) = sumC d - (d.getD i ⟨0, 0⟩).f0 + x.f0
  | [], _, _, h => absurd h (Nat.not_lt_zero _)
  | y :: d, 0, x, _ => by simp only [List.set_cons_zero, sumC, List.getD_cons_zero]; omega
  | y :: d, i + 1, x, h => by
    have := sumC_set d i x (by simpa using h)
    simp only [List.set_cons_succ, sumC, List.getD_cons_succ, this]
    omega
theorem sumK_set : ∀ (d : List Ms) (i : Nat) (x : Ms), i < d.length → sumK (d.set i x) = sumK d - (d.getD i ⟨0, 0⟩).f1 + x.f1
  | [], _, _, h => absurd h (Nat.not_lt_zero _)
  | y :: d, 0, x, _ => by simp only [List.set_cons_zero, sumK, List.getD_cons_zero]; omega
  | y :: d, i + 1, x, h => by
    have := sumK_set d i x (by simpa using h)
    simp only [List.set_cons_succ, sumK, List.getD_cons_succ, this]
    omega
theorem ms_set (d : List Ms) (i : Int) (h0 : 0 ≤ i) (h1 : i < d.length) (x : Ms) (j : Int) (hj : 0 ≤ j) : ms (d.set i.toNat x) j = if j = i then x else ms d j := by
  obtain ⟨i, rfl⟩ := Int.eq_ofNat_of_zero_le h0
  obtain ⟨j, rfl⟩ := Int.eq_ofNat_of_zero_le hj
  simp only [ms, Int.toNat_natCast, List.getD_eq_getElem?_getD, List.getElem?_set]
  by_cases h : i = j
  · subst h
    rw [if_pos rfl, if_pos (by omega), if_pos rfl]
    rfl
  · rw [if_neg h, if_neg (by omega)]
theorem sumC_nonneg : ∀ (d : List Ms), (∀ x ∈ d, 0 ≤ x.f0) → 0 ≤ sumC d
  | [], _ => Int.le_refl _
  | x :: d, h => by
    have := sumC_nonneg d (fun y hy => h y (by simp [hy]))
    have := h x (by simp)
    simp only [sumC]
    omega
theorem sumK_nonneg : ∀ (d : List Ms), (∀ x ∈ d, 0 ≤ x.f1) → 0 ≤ sumK d
  | [], _ => Int.le_refl _
  | x :: d, h => by
    have := sumK_nonneg d (fun y hy => h y (by simp [hy]))
    have := h x (by simp)
    simp only [sumK]
    omega
/-- what stays true of the measures -/
structure Inv (n : Nat) (l : List S61) (s : Int) (d : List Ms) : Prop where
  len : d.length = n
  src : ms d s = ⟨0, 0⟩
  val : ∀ y : Int, 0 ≤ y → y < n → ((ms d y).f0 = Far ∧ (ms d y).f1 = 0) ∨ (0 ≤ (ms d y).f0 ∧ (ms d y).f0 < Far ∧ ∃ k : Nat, (ms d y).f1 = k ∧ WalkN l s k y (ms d y).f0)
  pre : ∀ y : Int, 0 ≤ y → y < n → y ≠ s → (ms d y).f0 ≠ Far → ∃ a ∈ l, a.f1 = y ∧ (ms d a.f0).f0 ≠ Far ∧ lessM (ms d y).f0 (ms d y).f1 ((ms d a.f0).f0 + a.f2) ((ms d a.f0).f1 + 1) = false
  room : ∀ y : Int, 0 ≤ y → y < n → (ms d y).f1 + sumC d ≤ 99999 * n
theorem lessM_iff {c k c' k' : Int} : lessM c k c' k' = true ↔ c < c' ∨ (c = c' ∧ k < k') := by
  unfold lessM
  by_cases h : c < c'
  · rw [if_pos h]
    exact ⟨fun _ => .inl h, fun _ => rfl⟩
  · rw [if_neg h]
    by_cases e : c = c'
    · rw [if_pos e, decide_eq_true_eq]
      exact ⟨fun hk => .inr ⟨e, hk⟩, fun hk => by omega⟩
    · rw [if_neg e]
      exact ⟨fun hk => absurd hk (by simp), fun hk => by omega⟩
theorem lessM_not {c k c' k' : Int} : lessM c k c' k' = false ↔ ¬ (c < c' ∨ (c = c' ∧ k < k')) := by
  rw [← lessM_iff, Bool.not_eq_true]
theorem Inv.bounds {n : Nat} {l : List S61} {s : Int} (hg : Good n l) {d : List Ms} (h : Inv n l s d) {y : Int} (h0 : 0 ≤ y) (h1 : y < n) : 0 ≤ (ms d y).f0 ∧ (ms d y).f0 ≤ Far ∧ 0 ≤ (ms d y).f1 := by
  rcases h.val y h0 h1 with ⟨e1, e2⟩ | ⟨e1, e2, k, e3, w⟩
  · rw [e1, e2]
    exact ⟨by decide, Int.le_refl _, Int.le_refl _⟩
  · exact ⟨e1, Int.le_of_lt e2, by omega⟩
/-- one arc -/
theorem stepM_inv {n : Nat} {l : List S61} {s : Int} (hg : Good n l) {d : List Ms} (h : Inv n l s d) {a : S61} (ha : a ∈ l) (b : Bool) :
    (stepM (d, b) a = (d, b) ∧ ((ms d a.f0).f0 = Far ∨ lessM ((ms d a.f0).f0 + a.f2) ((ms d a.f0).f1 + 1) (ms d a.f1).f0 (ms d a.f1).f1 = false)) ∨
    ((stepM (d, b) a).2 = true ∧ Inv n l s (stepM (d, b) a).1 ∧ (sumC (stepM (d, b) a).1 < sumC d ∨ (sumC (stepM (d, b) a).1 = sumC d ∧ sumK (stepM (d, b) a).1 < sumK d))) := by
  obtain ⟨h0, h1, h2, h3, h4, h5⟩ := hg a ha
  have hl := h.len
  unfold stepM
  simp only
  by_cases hf : (ms d a.f0).f0 = 99999
  · rw [if_pos hf]
    exact .inl ⟨rfl, .inl hf⟩
  rw [if_neg hf]
  by_cases hless : lessM ((ms d a.f0).f0 + a.f2) ((ms d a.f0).f1 + 1) (ms d a.f1).f0 (ms d a.f1).f1 = true
  rotate_left
  · rw [if_neg hless]
    exact .inl ⟨rfl, .inr (Bool.eq_false_iff.2 hless)⟩
  rw [if_pos hless]
  right
  have hlt := lessM_iff.1 hless
  have bu := h.bounds hg h0 h1
  have bv := h.bounds hg h2 h3
  have hvs : a.f1 ≠ s := by
    intro e
    rw [e, h.src] at hlt
    simp only at hlt
    omega
  have huv : a.f0 ≠ a.f1 := by
    intro e
    rw [e] at hlt
    omega
  have hm : ∀ y : Int, 0 ≤ y → ms (d.set a.f1.toNat ⟨(ms d a.f0).f0 + a.f2, (ms d a.f0).f1 + 1⟩) y = if y = a.f1 then ⟨(ms d a.f0).f0 + a.f2, (ms d a.f0).f1 + 1⟩ else ms d y := fun y hy => ms_set d a.f1 h2 (by omega) _ y hy
  have hC := sumC_set d a.f1.toNat ⟨(ms d a.f0).f0 + a.f2, (ms d a.f0).f1 + 1⟩ (by omega)
  have hK := sumK_set d a.f1.toNat ⟨(ms d a.f0).f0 + a.f2, (ms d a.f0).f1 + 1⟩ (by omega)
  have hmv : d.getD a.f1.toNat ⟨0, 0⟩ = ms d a.f1 := rfl
  rw [hmv] at hC hK
  simp only at hC hK
  have hwu : ∃ k : Nat, (ms d a.f0).f1 = k ∧ WalkN l s k a.f0 (ms d a.f0).f0 := by
    rcases h.val a.f0 h0 h1 with ⟨e1, _⟩ | ⟨_, _, k, e3, w⟩
    · exact absurd e1 hf
    · exact ⟨k, e3, w⟩
  obtain ⟨ku, hku, hwu⟩ := hwu
  have hnf : (ms d a.f0).f0 + a.f2 < Far := by
    rcases h.val a.f1 h2 h3 with ⟨e1, e2⟩ | ⟨_, e2, _⟩
    · rw [e1, e2] at hlt
      show _ < (99999 : Int)
      have : Far = (99999 : Int) := rfl
      omega
    · omega
  refine ⟨rfl, ⟨by rw [List.length_set]; exact hl, ?_, ?_, ?_, ?_⟩, ?_⟩
  · have hs0 : 0 ≤ s ∨ s < 0 := by omega
    rcases hs0 with hs0 | hs0
    · rw [hm s hs0, if_neg (fun e => hvs e.symm)]
      exact h.src
    · have e0 : s.toNat = 0 := by omega
      have hsrc := h.src
      have e1 : ms d s = ms d 0 := by unfold ms; rw [e0]; rfl
      have e2 : ∀ x, ms (d.set a.f1.toNat x) s = ms (d.set a.f1.toNat x) 0 := fun x => by unfold ms; rw [e0]; rfl
      rw [e2, hm 0 (Int.le_refl _)]
      rw [e1] at hsrc
      by_cases e3 : (0 : Int) = a.f1
      · exfalso
        rw [← e3, hsrc] at hlt
        simp only at hlt
        omega
      · rw [if_neg e3]
        exact hsrc
  · intro y hy hyn
    rw [hm y hy]
    by_cases e : y = a.f1
    · subst e
      rw [if_pos rfl]
      exact .inr ⟨by simp only; omega, hnf, ku + 1, by simp only; omega, WalkN.snoc hwu ha⟩
    · rw [if_neg e]
      exact h.val y hy hyn
  · intro y hy hyn hys hyf
    rw [hm y hy] at hyf ⊢
    by_cases e : y = a.f1
    · subst e
      rw [if_pos rfl]
      refine ⟨a, ha, rfl, ?_, ?_⟩
      · rw [hm _ h0, if_neg huv]
        exact hf
      · rw [hm _ h0, if_neg huv]
        exact lessM_not.2 (by simp only; omega)
    · rw [if_neg e] at hyf ⊢
      obtain ⟨c, hc, e1, e2, e3⟩ := h.pre y hy hyn hys hyf
      have hc0 := (hg c hc).1
      refine ⟨c, hc, e1, ?_, ?_⟩
      · rw [hm _ hc0]
        split
        · exact Int.ne_of_lt hnf
        · exact e2
      · rw [hm _ hc0]
        by_cases ev : c.f0 = a.f1
        · rw [if_pos ev]
          rw [ev] at e3
          have e3 := lessM_not.1 e3
          exact lessM_not.2 (by simp only; omega)
        · rw [if_neg ev]
          exact e3
  · intro y hy hyn
    rw [hm y hy, hC]
    have r1 := h.room a.f0 h0 h1
    have r2 := h.room a.f1 h2 h3
    have r3 := h.room y hy hyn
    split
    · simp only
      omega
    · omega
  · rw [hC, hK]
    omega
/-- a round: nothing changes, and every arc is tight; or it got better -/
theorem passM_inv {n : Nat} {l : List S61} {s : Int} (hg : Good n l) : ∀ (m : List S61), (∀ a ∈ m, a ∈ l) → ∀ {d : List Ms} (b : Bool), Inv n l s d →
    (passM m (d, b) = (d, b) ∧ ∀ a ∈ m, (ms d a.f0).f0 = Far ∨ lessM ((ms d a.f0).f0 + a.f2) ((ms d a.f0).f1 + 1) (ms d a.f1).f0 (ms d a.f1).f1 = false) ∨
    ((passM m (d, b)).2 = true ∧ Inv n l s (passM m (d, b)).1 ∧ (sumC (passM m (d, b)).1 < sumC d ∨ (sumC (passM m (d, b)).1 = sumC d ∧ sumK (passM m (d, b)).1 < sumK d)))
  | [], _, d, b, h => .inl ⟨rfl, fun a ha => by cases ha⟩
  | a :: m, hm, d, b, h => by
    have hc : passM (a :: m) (d, b) = passM m (stepM (d, b) a) := rfl
    rw [hc]
    rcases stepM_inv hg h (hm a (by simp)) b with ⟨e, ht⟩ | ⟨e1, e2, e3⟩
    · rw [e]
      rcases passM_inv hg m (fun x hx => hm x (by simp [hx])) b h with ⟨e', ht'⟩ | r
      · refine .inl ⟨e', fun x hx => ?_⟩
        rcases List.mem_cons.1 hx with rfl | hx
        · exact ht
        · exact ht' x hx
      · exact .inr r
    · right
      generalize stepM (d, b) a = st at e1 e2 e3
      obtain ⟨d1, b1⟩ := st
      simp only at e1 e2 e3
      subst e1
      rcases passM_inv hg m (fun x hx => hm x (by simp [hx])) true e2 with ⟨e', _⟩ | ⟨r1, r2, r3⟩
      · rw [e']
        exact ⟨rfl, e2, e3⟩
      · exact ⟨r1, r2, by omega⟩
theorem Inv.nonneg {n : Nat} {l : List S61} {s : Int} (hg : Good n l) {d : List Ms} (h : Inv n l s d) : (∀ x ∈ d, 0 ≤ x.f0) ∧ (∀ x ∈ d, 0 ≤ x.f1) := by
  have key : ∀ x ∈ d, 0 ≤ x.f0 ∧ 0 ≤ x.f1 := by
    intro x hx
    obtain ⟨i, hi, rfl⟩ := List.getElem_of_mem hx
    have hb := h.bounds hg (y := (i : Int)) (by omega) (by have := h.len; omega)
    have e : ms d (i : Int) = d[i] := by simp [ms, hi]
    rw [e] at hb
    exact ⟨hb.1, hb.2.2⟩
  exact ⟨fun x hx => (key x hx).1, fun x hx => (key x hx).2⟩
/-- tight everywhere: nothing more to relax -/
def TightM (l : List S61) (d : List Ms) : Prop := ∀ a ∈ l, (ms d a.f0).f0 = Far ∨ lessM ((ms d a.f0).f0 + a.f2) ((ms d a.f0).f1 + 1) (ms d a.f1).f0 (ms d a.f1).f1 = false
/-- rounds end, and then all is tight: by the sum of the costs, then of the arcs -/
theorem rounds_end {n : Nat} {l : List S61} {s : Int} (hg : Good n l) {P : List Ms → Prop}
    (hstep : ∀ d, Inv n l s d → (passM l (d, false)).2 = true → P (passM l (d, false)).1 → P d) (hend : ∀ d, Inv n l s d → passM l (d, false) = (d, false) → TightM l d → P d) :
    ∀ d, Inv n l s d → P d := by
  have key : ∀ (A B : Nat) (d : List Ms), Inv n l s d → sumC d = A → sumK d = B → P d := by
    intro A
    induction A using Nat.strongRecOn with
    | _ A ihA =>
    intro B
    induction B using Nat.strongRecOn with
    | _ B ihB =>
    intro d h hA hB
    rcases passM_inv hg l (fun a ha => ha) false h with ⟨e, ht⟩ | ⟨e1, e2, e3⟩
    · exact hend d h e ht
    · refine hstep d h e1 ?_
      have hn := e2.nonneg hg
      have c0 := sumC_nonneg _ hn.1
      have k0 := sumK_nonneg _ hn.2
      rcases e3 with e3 | ⟨e3, e4⟩
      · exact ihA (sumC (passM l (d, false)).1).toNat (by omega) (sumK (passM l (d, false)).1).toNat _ e2 (by omega) (by omega)
      · exact ihB (sumK (passM l (d, false)).1).toNat (by omega) _ e2 (by omega) (by omega)
  intro d h
  have hn := h.nonneg hg
  have c0 := sumC_nonneg _ hn.1
  have k0 := sumK_nonneg _ hn.2
  exact key (sumC d).toNat (sumK d).toNat d h (by omega) (by omega)
theorem pigeon : ∀ (k : Nat) (L : List Int), (∀ j : Nat, j ≤ k → (j : Int) ∈ L) → k + 1 ≤ L.length
  | 0, L, h => List.length_pos_of_mem (h 0 (Nat.le_refl _))
  | k + 1, L, h => by
    have h1 := pigeon k (L.erase ((k + 1 : Nat) : Int)) (fun j hj => (List.mem_erase_of_ne (by omega)).2 (h j (by omega)))
    have h2 := h (k + 1) (Nat.le_refl _)
    have h3 := List.length_pos_of_mem h2
    rw [List.length_erase_of_mem h2] at h1
    omega
/-- where all is tight each number of arcs below a node's is another node's -/
theorem chain {n : Nat} {l : List S61} {s : Int} (hg : Good n l) {d : List Ms} (h : Inv n l s d) (ht : TightM l d) : ∀ (k : Nat) (y : Int), 0 ≤ y → y < n → (ms d y).f0 ≠ Far → (ms d y).f1 = k → ∀ j : Nat, j ≤ k → ∃ z : Int, 0 ≤ z ∧ z < n ∧ (ms d z).f1 = j := by
  intro k
  induction k with
  | zero => exact fun y hy hyn _ hk j hj => ⟨y, hy, hyn, by rw [hk]; omega⟩
  | succ k ih =>
    intro y hy hyn hf hk j hj
    by_cases hjk : j = k + 1
    · exact ⟨y, hy, hyn, by rw [hk, hjk]⟩
    · have hys : y ≠ s := by
        intro e
        rw [e, h.src] at hk
        simp only at hk
        omega
      obtain ⟨a, ha, e1, e2, e3⟩ := h.pre y hy hyn hys hf
      obtain ⟨h0, h1, _⟩ := hg a ha
      have e3 := lessM_not.1 e3
      rcases ht a ha with e | e
      · exact absurd e e2
      · have e := lessM_not.1 e
        rw [e1] at e
        exact ih a.f0 h0 h1 e2 (by omega) j (by omega)
theorem few_of {n : Nat} {l : List S61} {s : Int} (hg : Good n l) {d : List Ms} (h : Inv n l s d) (ht : TightM l d) {y : Int} (hy : 0 ≤ y) (hyn : y < n) (hf : (ms d y).f0 ≠ Far) : ∃ k : Nat, k + 1 ≤ n ∧ WalkN l s k y (ms d y).f0 := by
  rcases h.val y hy hyn with ⟨e, _⟩ | ⟨_, _, k, hk, w⟩
  · exact absurd e hf
  · refine ⟨k, ?_, w⟩
    have := pigeon k ((List.range n).map fun (i : Nat) => (ms d (i : Int)).f1) (fun j hj => by
      obtain ⟨z, hz, hzn, e⟩ := chain hg h ht k y hy hyn hf hk j hj
      rw [List.mem_map]
      obtain ⟨z, rfl⟩ := Int.eq_ofNat_of_zero_le hz
      exact ⟨z, List.mem_range.2 (by omega), e⟩)
    simpa using this
/-- where all is tight the costs are least -/
theorem tight_least {n : Nat} {l : List S61} {s : Int} (hg : Good n l) (hn : n ≤ 8) (hs : 0 ≤ s ∧ s < n) {d : List Ms} (h : Inv n l s d) (ht : TightM l d) {k : Nat} {y c : Int} (w : WalkN l s k y c) : (ms d y).f0 ≤ c ∧ (ms d y).f0 ≠ Far := by
  induction w with
  | nil =>
    rw [h.src]
    exact ⟨Int.le_refl _, by decide⟩
  | @snoc a k c w ha ih =>
    obtain ⟨_, _, h2, h3, h4, h5⟩ := hg a ha
    rcases ht a ha with e | e
    · exact absurd e ih.2
    · have e := lessM_not.1 e
      have hb := w.node hg hs
      have b1 := h.bounds hg hb.1 hb.2
      refine ⟨by omega, fun ef => ?_⟩
      rcases h.val a.f0 hb.1 hb.2 with ⟨e1, _⟩ | ⟨_, e2, kk, e3, w3⟩
      · exact ih.2 e1
      · have e5 := h.val a.f1 h2 h3
        rcases e5 with ⟨e6, e7⟩ | ⟨_, e6, _⟩
        · rw [e6, e7] at e
          have : Far = (99999 : Int) := rfl
          obtain ⟨k4, hk4, w4⟩ := few_of hg h ht hb.1 hb.2 ih.2
          have := w4.cost hg
          omega
        · omega
end Go.Proofs.Ytdlaaccnaokdnaa.M
