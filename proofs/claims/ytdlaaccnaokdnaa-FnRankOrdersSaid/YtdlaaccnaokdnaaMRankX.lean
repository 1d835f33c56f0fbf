/- Plain law of nets with costs: walks from a node; what relaxing does; Plain law of nets with costs: relaxing (cost, arcs) until nothing changes; Distances: what the program's from tells is of least costs; Plain law: walks of the net turned round, walks put together, and lists of least costs compared; Up and down in a hierarchy: each way has one that goes up, then down, and costs no more; Distances as a function of two nodes; a hierarchy's entries against them; Each walk of a net has a way up and down in its hierarchy that costs no more; Going up from both ends costs just the distance, whatever the order. -/
import Derived.Test.YtdlaaccnaokdnaaMNetOk
import Derived.Test.YtdlaaccnaokdnaaGFrom
import Derived.Test.YtdlaaccnaokdnaaMRankF
import Derived.Test.YtdlaaccnaokdnaaMRankD
import Derived.Test.YtdlaaccnaokdnaaMRankC
import Derived.Test.YtdlaaccnaokdnaaHPerm
set_option linter.unusedVariables false
namespace Go.Proofs.Ytdlaaccnaokdnaa.M
open Go.RowKit Go.Proofs.Ytdlaaccnaokdnaa.P Go.Proofs.YtdlaaccnaokdnaaV.PrintWords Go.Proofs.YtdlaaccnaokdnaaV.PrintMore

abbrev Far : Int := 99999
/-- a walk from s, of k arcs, to y, and what it costs -/
inductive WalkN (l : List S61) (s : Int) : Nat → Int → Int → Prop
  | nil : WalkN l s 0 s 0
  | snoc {a : S61} {k : Nat} {c : Int} (w : WalkN l s k a.f0 c) (h : a ∈ l) : WalkN l s (k + 1) a.f1 (c + a.f2)
def Walk (l : List S61) (s y c : Int) : Prop := ∃ k, WalkN l s k y c
/-- arcs lead between nodes 0 .. n-1, for 0 to 99 -/
def Good (n : Nat) (l : List S61) : Prop := ∀ a ∈ l, 0 ≤ a.f0 ∧ a.f0 < n ∧ 0 ≤ a.f1 ∧ a.f1 < n ∧ 0 ≤ a.f2 ∧ a.f2 ≤ 99
theorem WalkN.cost {n : Nat} {l : List S61} (hg : Good n l) {s : Int} {k : Nat} {y c : Int} (w : WalkN l s k y c) : 0 ≤ c ∧ c ≤ 99 * k := by
  induction w with
  | nil => exact ⟨Int.le_refl _, by omega⟩
  | snoc w h ih =>
    obtain ⟨_, _, _, _, h0, h1⟩ := hg _ h
    exact ⟨by omega, by omega⟩
theorem WalkN.node {n : Nat} {l : List S61} (hg : Good n l) {s : Int} (hs : 0 ≤ s ∧ s < n) {k : Nat} {y c : Int} (w : WalkN l s k y c) : 0 ≤ y ∧ y < n := by
  induction w with
  | nil => exact hs
  | snoc w h ih =>
    obtain ⟨_, _, h0, h1, _⟩ := hg _ h
    exact ⟨h0, h1⟩
theorem netOk_good {nodes : Int} {l : List S61} (h : netOkB nodes l = true) : Good nodes.toNat l := by
  simp only [netOkB, Bool.and_eq_true, Bool.not_eq_true', decide_eq_true_eq, List.any_eq_false] at h
  obtain ⟨⟨⟨h1, h2⟩, h3⟩, h4⟩ := h
  intro x hx
  have hb := Bool.eq_false_iff.2 (h4 x hx)
  simp only [badArc, inB, costB, loadB, Bool.or_eq_false_iff, Bool.not_eq_false', Bool.and_eq_true, decide_eq_true_eq, beq_eq_false_iff_ne] at hb
  rw [w64 (by omega)] at hb
  obtain ⟨⟨⟨⟨⟨⟨a, b⟩, c, d⟩, e⟩, f⟩, g⟩, i⟩ := hb
  exact ⟨a, by omega, c, by omega, f.1, f.2⟩
/-- what is known of distances from s: D's numbers are least costs, Far where no walk leads -/
structure IsDist (n : Nat) (l : List S61) (s : Int) (D : List Int) : Prop where
  len : D.length = n
  least : ∀ y c, Walk l s y c → rd D y ≤ c
  walk : ∀ y : Int, 0 ≤ y → y < n → rd D y ≠ Far → Walk l s y (rd D y)
  few : ∀ y : Int, 0 ≤ y → y < n → rd D y = Far ∨ (0 ≤ rd D y ∧ rd D y ≤ 693)
  short : ∀ y : Int, 0 ≤ y → y < n → rd D y ≠ Far → ∃ k, k < n ∧ WalkN l s k y (rd D y)

/-! ### the specification's rounds -/
/-- one arc relaxed -/
def stepS (d : List Int) (a : S61) : List Int := if rd d a.f0 < 99999 then (if rd d a.f0 + a.f2 < rd d a.f1 then d.set a.f1.toNat (rd d a.f0 + a.f2) else d) else d
def passS (l : List S61) (d : List Int) : List Int := l.foldl stepS d
theorem rd_set (d : List Int) (i : Int) (h0 : 0 ≤ i) (h1 : i < d.length) (x j : Int) (hj : 0 ≤ j) : rd (d.set i.toNat x) j = if j = i then x else rd d j := by
  obtain ⟨i, rfl⟩ := Int.eq_ofNat_of_zero_le h0
  obtain ⟨j, rfl⟩ := Int.eq_ofNat_of_zero_le hj
  simp only [rd, Int.toNat_natCast, List.getD_eq_getElem?_getD, List.getElem?_set]
  by_cases h : i = j
  · subst h
    rw [if_pos rfl, if_pos (by omega), if_pos rfl]
    rfl
  · rw [if_neg h, if_neg (by omega)]
theorem stepS_len (d : List Int) (a : S61) : (stepS d a).length = d.length := by
  unfold stepS
  split
  · split
    · rw [List.length_set]
    · rfl
  · rfl
/-- what stays true of the numbers: each is Far or a walk's cost -/
structure SoundS (n : Nat) (l : List S61) (s : Int) (d : List Int) : Prop where
  len : d.length = n
  val : ∀ y : Int, 0 ≤ y → y < n → rd d y = Far ∨ (rd d y < Far ∧ Walk l s y (rd d y))
theorem stepS_sound {n : Nat} {l : List S61} {s : Int} (hg : Good n l) {d : List Int} (h : SoundS n l s d) {a : S61} (ha : a ∈ l) :
    SoundS n l s (stepS d a) ∧ (∀ y : Int, 0 ≤ y → rd (stepS d a) y ≤ rd d y) ∧ (rd d a.f0 < Far → rd (stepS d a) a.f1 ≤ rd d a.f0 + a.f2) := by
  obtain ⟨h0, h1, h2, h3, h4, h5⟩ := hg a ha
  have hl := h.len
  unfold stepS
  by_cases hf : rd d a.f0 < 99999
  · rw [if_pos hf]
    by_cases hc : rd d a.f0 + a.f2 < rd d a.f1
    · rw [if_pos hc]
      have hr : ∀ y : Int, 0 ≤ y → rd (d.set a.f1.toNat (rd d a.f0 + a.f2)) y = if y = a.f1 then rd d a.f0 + a.f2 else rd d y := fun y hy => rd_set d a.f1 h2 (by omega) _ y hy
      refine ⟨⟨by rw [List.length_set]; exact hl, fun y hy hyn => ?_⟩, fun y hy => ?_, fun _ => ?_⟩
      · rw [hr y hy]
        by_cases e : y = a.f1
        · subst e
          rw [if_pos rfl]
          refine .inr ⟨?_, ?_⟩
          · rcases h.val a.f1 h2 h3 with e1 | ⟨e1, _⟩ <;> omega
          · rcases h.val a.f0 h0 h1 with e1 | ⟨_, k, w⟩
            · rw [e1] at hf; exact absurd hf (by decide)
            · exact ⟨k + 1, WalkN.snoc w ha⟩
        · rw [if_neg e]
          exact h.val y hy hyn
      · rw [hr y hy]
        split
        · rename_i e
          subst e
          omega
        · exact Int.le_refl _
      · rw [hr _ h2, if_pos rfl]
        exact Int.le_refl _
    · rw [if_neg hc]
      exact ⟨h, fun _ _ => Int.le_refl _, fun _ => by omega⟩
  · rw [if_neg hf]
    exact ⟨h, fun _ _ => Int.le_refl _, fun h => absurd h hf⟩
/-- a whole round -/
theorem passS_sound {n : Nat} {l : List S61} {s : Int} (hg : Good n l) : ∀ (m : List S61), (∀ a ∈ m, a ∈ l) → ∀ {d : List Int}, SoundS n l s d →
    SoundS n l s (passS m d) ∧ (∀ y : Int, 0 ≤ y → rd (passS m d) y ≤ rd d y) ∧ (∀ a ∈ m, rd d a.f0 < Far → rd (passS m d) a.f1 ≤ rd d a.f0 + a.f2)
  | [], _, d, h => ⟨h, fun _ _ => Int.le_refl _, fun a ha => by cases ha⟩
  | b :: m, hm, d, h => by
    obtain ⟨s1, s2, s3⟩ := stepS_sound hg h (hm b (by simp))
    obtain ⟨t1, t2, t3⟩ := passS_sound hg m (fun a ha => hm a (by simp [ha])) s1
    refine ⟨t1, fun y hy => Int.le_trans (t2 y hy) (s2 y hy), fun a ha hf => ?_⟩
    rcases List.mem_cons.1 ha with rfl | ha
    · exact Int.le_trans (t2 _ (hg _ (hm _ (by simp))).2.2.1) (s3 hf)
    · have h0 := (hg a (hm a (by simp [ha]))).1
      have e1 := t3 a ha (Int.lt_of_le_of_lt (s2 _ h0) hf)
      have e2 := s2 _ h0
      show rd (passS m (stepS d b)) a.f1 ≤ _
      omega
/-- after i rounds no walk of at most i arcs is cheaper -/
def passesS (l : List S61) : Nat → List Int → List Int
  | 0, d => d
  | i + 1, d => passS l (passesS l i d)
theorem passesS_least {n : Nat} {l : List S61} {s : Int} (hg : Good n l) (hs : 0 ≤ s ∧ s < n) {d : List Int} (h : SoundS n l s d) (h0 : rd d s ≤ 0) :
    ∀ i, i ≤ 8 → SoundS n l s (passesS l i d) ∧ ∀ k y c, k ≤ i → WalkN l s k y c → rd (passesS l i d) y ≤ c
  | 0, _ => ⟨h, fun k y c hk w => by
      obtain rfl : k = 0 := by omega
      cases w
      exact h0⟩
  | i + 1, hi => by
    obtain ⟨s1, s2⟩ := passesS_least hg hs h h0 i (by omega)
    obtain ⟨t1, t2, t3⟩ := passS_sound hg l (fun a ha => ha) s1
    refine ⟨t1, fun k y c hk w => ?_⟩
    have hy := w.node hg hs
    by_cases hki : k ≤ i
    · exact Int.le_trans (t2 y hy.1) (s2 k y c hki w)
    · cases w with
      | nil => omega
      | @snoc a k c w ha =>
        have hle := s2 k a.f0 c (by omega) w
        have hc := w.cost hg
        have := t3 a ha (by show _ < (99999 : Int); omega)
        show rd (passS l (passesS l i d)) a.f1 ≤ _
        omega
end Go.Proofs.Ytdlaaccnaokdnaa.M
set_option linter.unusedVariables false
namespace Go.Proofs.Ytdlaaccnaokdnaa.M
open Go.RowKit Go.Proofs.Ytdlaaccnaokdnaa.P Go.Proofs.YtdlaaccnaokdnaaV.PrintWords Go.Proofs.YtdlaaccnaokdnaaV.PrintMore

abbrev Ms := S134
/-- a node's measure -/
def ms (d : List Ms) (y : Int) : Ms := d.getD y.toNat ⟨0, 0⟩
def lessM (c k c' k' : Int) : Bool := if c < c' then true else if c = c' then decide (k < k') else false
/-- one arc of the net turned round: the measure at its end from that at its start -/
def stepM (st : List Ms × Bool) (a : S61) : List Ms × Bool :=
  if (ms st.1 a.f0).f0 = 99999 then st
  else if lessM ((ms st.1 a.f0).f0 + a.f2) ((ms st.1 a.f0).f1 + 1) (ms st.1 a.f1).f0 (ms st.1 a.f1).f1 = true then (st.1.set a.f1.toNat ⟨(ms st.1 a.f0).f0 + a.f2, (ms st.1 a.f0).f1 + 1⟩, true) else st
def passM (l : List S61) (st : List Ms × Bool) : List Ms × Bool := l.foldl stepM st
def sumC : List Ms → Int
  | [] => 0
  | x :: d => x.f0 + sumC d
def sumK : List Ms → Int
  | [] => 0
  | x :: d => x.f1 + sumK d
theorem sumC_set : ∀ (d : List Ms) (i : Nat) (x : Ms), i < d.length → sumC (d.set i x) = sumC d - (d.getD i ⟨0, 0⟩).f0 + x.f0
  | [], _, _, h => absurd h (Nat.not_lt_zero _)
  | y :: d, 0, x, _ => by simp only [List.set_cons_zero, sumC, List.getD_cons_zero]; omega
  | y :: d, i + 1, x, h => by
    have := sumC_set d i x (by simpa using h)
    simp only [List.set_cons_succ, sumC, List.getD_cons_succ, this]
    omega
theorem sumK_set : ∀ (d : List Ms) (i : Nat) (x : Ms), i < d.length → sumK (d.set i x) = sumK d - (d.getD i ⟨0, 0⟩).f1 + x.f1
  | [], _, _, h => absurd h (Nat.not_lt_zero _)
  | y :: d, 0, x, _ => by simp only [List.set_cons_zero, sumK, List.getD_cons_zero]; omega
  | y :: d, i + 1, x, h => by
    have := sumK_set d i x (by simpa using h)
    simp only [List.set_cons_succ, sumK, List.getD_cons_succ, this]
    omega
theorem ms_set (d : List Ms) (i : Int) (h0 : 0 ≤ i) (h1 : i < d.length) (x : Ms) (j : Int) (hj : 0 ≤ j) : ms (d.set i.toNat x) j = if j = i then x else ms d j := by
  obtain ⟨i, rfl⟩ := Int.eq_ofNat_of_zero_le h0
  obtain ⟨j, rfl⟩ := Int.eq_ofNat_of_zero_le hj
  simp only [ms, Int.toNat_natCast, List.getD_eq_getElem?_getD, List.getElem?_set]
  by_cases h : i = j
  · subst h
    rw [if_pos rfl, if_pos (by omega), if_pos rfl]
    rfl
  · rw [if_neg h, if_neg (by omega)]
theorem sumC_nonneg : ∀ (d : List Ms), (∀ x ∈ d, 0 ≤ x.f0) → 0 ≤ sumC d
  | [], _ => Int.le_refl _
  | x :: d, h => by
    have := sumC_nonneg d (fun y hy => h y (by simp [hy]))
    have := h x (by simp)
    simp only [sumC]
    omega
theorem sumK_nonneg : ∀ (d : List Ms), (∀ x ∈ d, 0 ≤ x.f1) → 0 ≤ sumK d
  | [], _ => Int.le_refl _
  | x :: d, h => by
    have := sumK_nonneg d (fun y hy => h y (by simp [hy]))
    have := h x (by simp)
    simp only [sumK]
    omega
/-- what stays true of the measures -/
structure Inv (n : Nat) (l : List S61) (s : Int) (d : List Ms) : Prop where
  len : d.length = n
  src : ms d s = ⟨0, 0⟩
  val : ∀ y : Int, 0 ≤ y → y < n → ((ms d y).f0 = Far ∧ (ms d y).f1 = 0) ∨ (0 ≤ (ms d y).f0 ∧ (ms d y).f0 < Far ∧ ∃ k : Nat, (ms d y).f1 = k ∧ WalkN l s k y (ms d y).f0)
  pre : ∀ y : Int, 0 ≤ y → y < n → y ≠ s → (ms d y).f0 ≠ Far → ∃ a ∈ l, a.f1 = y ∧ (ms d a.f0).f0 ≠ Far ∧ lessM (ms d y).f0 (ms d y).f1 ((ms d a.f0).f0 + a.f2) ((ms d a.f0).f1 + 1) = false
  room : ∀ y : Int, 0 ≤ y → y < n → (ms d y).f1 + sumC d ≤ 99999 * n
theorem lessM_iff {c k c' k' : Int} : lessM c k c' k' = true ↔ c < c' ∨ (c = c' ∧ k < k') := by
  unfold lessM
  by_cases h : c < c'
  · rw [if_pos h]
    exact ⟨fun _ => .inl h, fun _ => rfl⟩
  · rw [if_neg h]
    by_cases e : c = c'
    · rw [if_pos e, decide_eq_true_eq]
      exact ⟨fun hk => .inr ⟨e, hk⟩, fun hk => by omega⟩
    · rw [if_neg e]
      exact ⟨fun hk => absurd hk (by simp), fun hk => by omega⟩
theorem lessM_not {c k c' k' : Int} : lessM c k c' k' = false ↔ ¬ (c < c' ∨ (c = c' ∧ k < k')) := by
  rw [← lessM_iff, Bool.not_eq_true]
theorem Inv.bounds {n : Nat} {l : List S61} {s : Int} (hg : Good n l) {d : List Ms} (h : Inv n l s d) {y : Int} (h0 : 0 ≤ y) (h1 : y < n) : 0 ≤ (ms d y).f0 ∧ (ms d y).f0 ≤ Far ∧ 0 ≤ (ms d y).f1 := by
  rcases h.val y h0 h1 with ⟨e1, e2⟩ | ⟨e1, e2, k, e3, w⟩
  · rw [e1, e2]
    exact ⟨by decide, Int.le_refl _, Int.le_refl _⟩
  · exact ⟨e1, Int.le_of_lt e2, by omega⟩
/-- one arc -/
theorem stepM_inv {n : Nat} {l : List S61} {s : Int} (hg : Good n l) {d : List Ms} (h : Inv n l s d) {a : S61} (ha : a ∈ l) (b : Bool) :
    (stepM (d, b) a = (d, b) ∧ ((ms d a.f0).f0 = Far ∨ lessM ((ms d a.f0).f0 + a.f2) ((ms d a.f0).f1 + 1) (ms d a.f1).f0 (ms d a.f1).f1 = false)) ∨
    ((stepM (d, b) a).2 = true ∧ Inv n l s (stepM (d, b) a).1 ∧ (sumC (stepM (d, b) a).1 < sumC d ∨ (sumC (stepM (d, b) a).1 = sumC d ∧ sumK (stepM (d, b) a).1 < sumK d))) := by
  obtain ⟨h0, h1, h2, h3, h4, h5⟩ := hg a ha
  have hl := h.len
  unfold stepM
  simp only
  by_cases hf : (ms d a.f0).f0 = 99999
  · rw [if_pos hf]
    exact .inl ⟨rfl, .inl hf⟩
  rw [if_neg hf]
  by_cases hless : lessM ((ms d a.f0).f0 + a.f2) ((ms d a.f0).f1 + 1) (ms d a.f1).f0 (ms d a.f1).f1 = true
  rotate_left
  · rw [if_neg hless]
    exact .inl ⟨rfl, .inr (Bool.eq_false_iff.2 hless)⟩
  rw [if_pos hless]
  right
  have hlt := lessM_iff.1 hless
  have bu := h.bounds hg h0 h1
  have bv := h.bounds hg h2 h3
  have hvs : a.f1 ≠ s := by
    intro e
    rw [e, h.src] at hlt
    simp only at hlt
    omega
  have huv : a.f0 ≠ a.f1 := by
    intro e
    rw [e] at hlt
    omega
  have hm : ∀ y : Int, 0 ≤ y → ms (d.set a.f1.toNat ⟨(ms d a.f0).f0 + a.f2, (ms d a.f0).f1 + 1⟩) y = if y = a.f1 then ⟨(ms d a.f0).f0 + a.f2, (ms d a.f0).f1 + 1⟩ else ms d y := fun y hy => ms_set d a.f1 h2 (by omega) _ y hy
  have hC := sumC_set d a.f1.toNat ⟨(ms d a.f0).f0 + a.f2, (ms d a.f0).f1 + 1⟩ (by omega)
  have hK := sumK_set d a.f1.toNat ⟨(ms d a.f0).f0 + a.f2, (ms d a.f0).f1 + 1⟩ (by omega)
  have hmv : d.getD a.f1.toNat ⟨0, 0⟩ = ms d a.f1 := rfl
  rw [hmv] at hC hK
  simp only at hC hK
  have hwu : ∃ k : Nat, (ms d a.f0).f1 = k ∧ WalkN l s k a.f0 (ms d a.f0).f0 := by
    rcases h.val a.f0 h0 h1 with ⟨e1, _⟩ | ⟨_, _, k, e3, w⟩
    · exact absurd e1 hf
    · exact ⟨k, e3, w⟩
  obtain ⟨ku, hku, hwu⟩ := hwu
  have hnf : (ms d a.f0).f0 + a.f2 < Far := by
    rcases h.val a.f1 h2 h3 with ⟨e1, e2⟩ | ⟨_, e2, _⟩
    · rw [e1, e2] at hlt
      show _ < (99999 : Int)
      have : Far = (99999 : Int) := rfl
      omega
    · omega
  refine ⟨rfl, ⟨by rw [List.length_set]; exact hl, ?_, ?_, ?_, ?_⟩, ?_⟩
  · have hs0 : 0 ≤ s ∨ s < 0 := by omega
    rcases hs0 with hs0 | hs0
    · rw [hm s hs0, if_neg (fun e => hvs e.symm)]
      exact h.src
    · have e0 : s.toNat = 0 := by omega
      have hsrc := h.src
      have e1 : ms d s = ms d 0 := by unfold ms; rw [e0]; rfl
      have e2 : ∀ x, ms (d.set a.f1.toNat x) s = ms (d.set a.f1.toNat x) 0 := fun x => by unfold ms; rw [e0]; rfl
      rw [e2, hm 0 (Int.le_refl _)]
      rw [e1] at hsrc
      by_cases e3 : (0 : Int) = a.f1
      · exfalso
        rw [← e3, hsrc] at hlt
        simp only at hlt
        omega
      · rw [if_neg e3]
        exact hsrc
  · intro y hy hyn
    rw [hm y hy]
    by_cases e : y = a.f1
    · subst e
      rw [if_pos rfl]
      exact .inr ⟨by simp only; omega, hnf, ku + 1, by simp only; omega, WalkN.snoc hwu ha⟩
    · rw [if_neg e]
      exact h.val y hy hyn
  · intro y hy hyn hys hyf
    rw [hm y hy] at hyf ⊢
    by_cases e : y = a.f1
    · subst e
      rw [if_pos rfl]
      refine ⟨a, ha, rfl, ?_, ?_⟩
      · rw [hm _ h0, if_neg huv]
        exact hf
      · rw [hm _ h0, if_neg huv]
        exact lessM_not.2 (by simp only; omega)
    · rw [if_neg e] at hyf ⊢
      obtain ⟨c, hc, e1, e2, e3⟩ := h.pre y hy hyn hys hyf
      have hc0 := (hg c hc).1
      refine ⟨c, hc, e1, ?_, ?_⟩
      · rw [hm _ hc0]
        split
        · exact Int.ne_of_lt hnf
        · exact e2
      · rw [hm _ hc0]
        by_cases ev : c.f0 = a.f1
        · rw [if_pos ev]
          rw [ev] at e3
          have e3 := lessM_not.1 e3
          exact lessM_not.2 (by simp only; omega)
        · rw [if_neg ev]
          exact e3
  · intro y hy hyn
    rw [hm y hy, hC]
    have r1 := h.room a.f0 h0 h1
    have r2 := h.room a.f1 h2 h3
    have r3 := h.room y hy hyn
    split
    · simp only
      omega
    · omega
  · rw [hC, hK]
    omega
/-- a round: nothing changes, and every arc is tight; or it got better -/
theorem passM_inv {n : Nat} {l : List S61} {s : Int} (hg : Good n l) : ∀ (m : List S61), (∀ a ∈ m, a ∈ l) → ∀ {d : List Ms} (b : Bool), Inv n l s d →
    (passM m (d, b) = (d, b) ∧ ∀ a ∈ m, (ms d a.f0).f0 = Far ∨ lessM ((ms d a.f0).f0 + a.f2) ((ms d a.f0).f1 + 1) (ms d a.f1).f0 (ms d a.f1).f1 = false) ∨
    ((passM m (d, b)).2 = true ∧ Inv n l s (passM m (d, b)).1 ∧ (sumC (passM m (d, b)).1 < sumC d ∨ (sumC (passM m (d, b)).1 = sumC d ∧ sumK (passM m (d, b)).1 < sumK d)))
  | [], _, d, b, h => .inl ⟨rfl, fun a ha => by cases ha⟩
  | a :: m, hm, d, b, h => by
    have hc : passM (a :: m) (d, b) = passM m (stepM (d, b) a) := rfl
    rw [hc]
    rcases stepM_inv hg h (hm a (by simp)) b with ⟨e, ht⟩ | ⟨e1, e2, e3⟩
    · rw [e]
      rcases passM_inv hg m (fun x hx => hm x (by simp [hx])) b h with ⟨e', ht'⟩ | r
      · refine .inl ⟨e', fun x hx => ?_⟩
        rcases List.mem_cons.1 hx with rfl | hx
        · exact ht
        · exact ht' x hx
      · exact .inr r
    · right
      generalize stepM (d, b) a = st at e1 e2 e3
      obtain ⟨d1, b1⟩ := st
      simp only at e1 e2 e3
      subst e1
      rcases passM_inv hg m (fun x hx => hm x (by simp [hx])) true e2 with ⟨e', _⟩ | ⟨r1, r2, r3⟩
      · rw [e']
        exact ⟨rfl, e2, e3⟩
      · exact ⟨r1, r2, by omega⟩
theorem Inv.nonneg {n : Nat} {l : List S61} {s : Int} (hg : Good n l) {d : List Ms} (h : Inv n l s d) : (∀ x ∈ d, 0 ≤ x.f0) ∧ (∀ x ∈ d, 0 ≤ x.f1) := by
  have key : ∀ x ∈ d, 0 ≤ x.f0 ∧ 0 ≤ x.f1 := by
    intro x hx
    obtain ⟨i, hi, rfl⟩ := List.getElem_of_mem hx
    have hb := h.bounds hg (y := (i : Int)) (by omega) (by have := h.len; omega)
    have e : ms d (i : Int) = d[i] := by simp [ms, hi]
    rw [e] at hb
    exact ⟨hb.1, hb.2.2⟩
  exact ⟨fun x hx => (key x hx).1, fun x hx => (key x hx).2⟩
/-- tight everywhere: nothing more to relax -/
def TightM (l : List S61) (d : List Ms) : Prop := ∀ a ∈ l, (ms d a.f0).f0 = Far ∨ lessM ((ms d a.f0).f0 + a.f2) ((ms d a.f0).f1 + 1) (ms d a.f1).f0 (ms d a.f1).f1 = false
/-- rounds end, and then all is tight: by the sum of the costs, then of the arcs -/
theorem rounds_end {n : Nat} {l : List S61} {s : Int} (hg : Good n l) {P : List Ms → Prop}
    (hstep : ∀ d, Inv n l s d → (passM l (d, false)).2 = true → P (passM l (d, false)).1 → P d) (hend : ∀ d, Inv n l s d → passM l (d, false) = (d, false) → TightM l d → P d) :
    ∀ d, Inv n l s d → P d := by
  have key : ∀ (A B : Nat) (d : List Ms), Inv n l s d → sumC d = A → sumK d = B → P d := by
    intro A
    induction A using Nat.strongRecOn with
    | _ A ihA =>
    intro B
    induction B using Nat.strongRecOn with
    | _ B ihB =>
    intro d h hA hB
    rcases passM_inv hg l (fun a ha => ha) false h with ⟨e, ht⟩ | ⟨e1, e2, e3⟩
    · exact hend d h e ht
    · refine hstep d h e1 ?_
      have hn := e2.nonneg hg
      have c0 := sumC_nonneg _ hn.1
      have k0 := sumK_nonneg _ hn.2
      rcases e3 with e3 | ⟨e3, e4⟩
      · exact ihA (sumC (passM l (d, false)).1).toNat (by omega) (sumK (passM l (d, false)).1).toNat _ e2 (by omega) (by omega)
      · exact ihB (sumK (passM l (d, false)).1).toNat (by omega) _ e2 (by omega) (by omega)
  intro d h
  have hn := h.nonneg hg
  have c0 := sumC_nonneg _ hn.1
  have k0 := sumK_nonneg _ hn.2
  exact key (sumC d).toNat (sumK d).toNat d h (by omega) (by omega)
theorem pigeon : ∀ (k : Nat) (L : List Int), (∀ j : Nat, j ≤ k → (j : Int) ∈ L) → k + 1 ≤ L.length
  | 0, L, h => List.length_pos_of_mem (h 0 (Nat.le_refl _))
  | k + 1, L, h => by
    have h1 := pigeon k (L.erase ((k + 1 : Nat) : Int)) (fun j hj => (List.mem_erase_of_ne (by omega)).2 (h j (by omega)))
    have h2 := h (k + 1) (Nat.le_refl _)
    have h3 := List.length_pos_of_mem h2
    rw [List.length_erase_of_mem h2] at h1
    omega
/-- where all is tight each number of arcs below a node's is another node's -/
theorem chain {n : Nat} {l : List S61} {s : Int} (hg : Good n l) {d : List Ms} (h : Inv n l s d) (ht : TightM l d) : ∀ (k : Nat) (y : Int), 0 ≤ y → y < n → (ms d y).f0 ≠ Far → (ms d y).f1 = k → ∀ j : Nat, j ≤ k → ∃ z : Int, 0 ≤ z ∧ z < n ∧ (ms d z).f1 = j := by
  intro k
  induction k with
  | zero => exact fun y hy hyn _ hk j hj => ⟨y, hy, hyn, by rw [hk]; omega⟩
  | succ k ih =>
    intro y hy hyn hf hk j hj
    by_cases hjk : j = k + 1
    · exact ⟨y, hy, hyn, by rw [hk, hjk]⟩
    · have hys : y ≠ s := by
        intro e
        rw [e, h.src] at hk
        simp only at hk
        omega
      obtain ⟨a, ha, e1, e2, e3⟩ := h.pre y hy hyn hys hf
      obtain ⟨h0, h1, _⟩ := hg a ha
      have e3 := lessM_not.1 e3
      rcases ht a ha with e | e
      · exact absurd e e2
      · have e := lessM_not.1 e
        rw [e1] at e
        exact ih a.f0 h0 h1 e2 (by omega) j (by omega)
theorem few_of {n : Nat} {l : List S61} {s : Int} (hg : Good n l) {d : List Ms} (h : Inv n l s d) (ht : TightM l d) {y : Int} (hy : 0 ≤ y) (hyn : y < n) (hf : (ms d y).f0 ≠ Far) : ∃ k : Nat, k + 1 ≤ n ∧ WalkN l s k y (ms d y).f0 := by
  rcases h.val y hy hyn with ⟨e, _⟩ | ⟨_, _, k, hk, w⟩
  · exact absurd e hf
  · refine ⟨k, ?_, w⟩
    have := pigeon k ((List.range n).map fun (i : Nat) => (ms d (i : Int)).f1) (fun j hj => by
      obtain ⟨z, hz, hzn, e⟩ := chain hg h ht k y hy hyn hf hk j hj
      rw [List.mem_map]
      obtain ⟨z, rfl⟩ := Int.eq_ofNat_of_zero_le hz
      exact ⟨z, List.mem_range.2 (by omega), e⟩)
    simpa using this
/-- where all is tight the costs are least -/
theorem tight_least {n : Nat} {l : List S61} {s : Int} (hg : Good n l) (hn : n ≤ 8) (hs : 0 ≤ s ∧ s < n) {d : List Ms} (h : Inv n l s d) (ht : TightM l d) {k : Nat} {y c : Int} (w : WalkN l s k y c) : (ms d y).f0 ≤ c ∧ (ms d y).f0 ≠ Far := by
  induction w with
  | nil =>
    rw [h.src]
    exact ⟨Int.le_refl _, by decide⟩
  | @snoc a k c w ha ih =>
    obtain ⟨_, _, h2, h3, h4, h5⟩ := hg a ha
    rcases ht a ha with e | e
    · exact absurd e ih.2
    · have e := lessM_not.1 e
      have hb := w.node hg hs
      have b1 := h.bounds hg hb.1 hb.2
      refine ⟨by omega, fun ef => ?_⟩
      rcases h.val a.f0 hb.1 hb.2 with ⟨e1, _⟩ | ⟨_, e2, kk, e3, w3⟩
      · exact ih.2 e1
      · have e5 := h.val a.f1 h2 h3
        rcases e5 with ⟨e6, e7⟩ | ⟨_, e6, _⟩
        · rw [e6, e7] at e
          have : Far = (99999 : Int) := rfl
          obtain ⟨k4, hk4, w4⟩ := few_of hg h ht hb.1 hb.2 ih.2
          have := w4.cost hg
          omega
        · omega
end Go.Proofs.Ytdlaaccnaokdnaa.M
set_option linter.unusedVariables false
namespace Go.Proofs.Ytdlaaccnaokdnaa.M
open Go.RowKit Go.Proofs.Ytdlaaccnaokdnaa.P Go.Proofs.YtdlaaccnaokdnaaV.PrintWords Go.Proofs.YtdlaaccnaokdnaaV.PrintMore

theorem Good.nodes {nodes : Int} {l : List S61} (h : netOkB nodes l = true) : 1 ≤ nodes ∧ nodes ≤ 8 ∧ l.length ≤ 16 := by
  simp only [netOkB, Bool.and_eq_true, decide_eq_true_eq] at h
  exact ⟨h.1.1.1, h.1.1.2, h.1.2⟩
/-! ### the specification -/
def swapA (a : S61) : S61 := ⟨a.f1, a.f0, a.f2, a.f3, a.f4⟩
theorem back_ev (nodes : Int) (l : List S61) (hl : l.length ≤ 1048576) : Ev (fun k => impl_Net_back.f k nodes l) (nodes, l.map swapA) := by
  refine Ev.congr (G := fun k => impl_Net_back.l0 k l l.length 0 nodes []) (fun k => by unfold impl_Net_back.f; rw [if_pos (by omega), if_pos (by omega)]) ?_
  have hP := downto (P := fun i => Ev (fun k => impl_Net_back.l0 k l l.length (i : Int) nodes ((l.take i).map swapA)) (nodes, l.map swapA)) (n := l.length) ?_ ?_
  · simpa using hP
  · refine Ev.step (G := fun _ => some (nodes, l.map swapA)) (fun k => ?_) (Ev.ret _)
    simp only [impl_Net_back.l0]
    rw [if_neg (by omega), List.take_length]
  · intro i hi h
    refine Ev.step (fun k => ?_) h
    simp only [impl_Net_back.l0]
    rw [if_pos (by omega), if_pos (by omega), if_pos (by omega), if_pos (by simp; omega), w64s (by omega), rd_T61_at l i hi, List.take_succ_eq_append_getElem hi, List.map_append]
    rfl
theorem less_lessM (a b c d : Int) : impl_measure_less.f a b c d = some (lessM a b c d) := by
  unfold impl_measure_less.f lessM
  split
  · rfl
  · split <;> rfl
theorem costs_ev (d : List Ms) (hl : d.length ≤ 1048576) : Ev (fun k => impl_costs.f k d) (d.map (·.f0)) := by
  refine Ev.congr (G := fun k => impl_costs.l0 k [] d d.length 0) (fun k => by unfold impl_costs.f; rw [if_pos (by omega), if_pos (by omega)]) ?_
  have hP := downto (P := fun i => Ev (fun k => impl_costs.l0 k ((d.take i).map (·.f0)) d d.length (i : Int)) (d.map (·.f0))) (n := d.length) ?_ ?_
  · simpa using hP
  · refine Ev.step (G := fun _ => some (d.map (·.f0))) (fun k => ?_) (Ev.ret _)
    simp only [impl_costs.l0]
    rw [if_neg (by omega), List.take_length]
  · intro i hi h
    refine Ev.step (fun k => ?_) h
    have hx : rd_T134 d (i : Int) = d[i] := by simp [rd_T134, hi]
    simp only [impl_costs.l0]
    rw [if_pos (by omega), if_pos (by omega), if_pos (by omega), if_pos (by simp; omega), w64s (by omega), hx, List.take_succ_eq_append_getElem hi, List.map_append]
    rfl
theorem rdM_ms (d : List Ms) (y : Int) : rd_T134 d y = ms d y := rfl
theorem toward_l1 {n : Nat} {l : List S61} {s : Int} (hg : Good n l) (hn : n ≤ 8) (hl : l.length ≤ 16) {d : List Ms} (b : Bool) (h : Inv n l s d) {nodes : Int} {R : List Ms}
    (hR : Ev (fun k => impl_Net_toward.l0 k (passM l (d, b)).1 (passM l (d, b)).2 nodes (l.map swapA)) R) :
    Ev (fun k => impl_Net_toward.l1 k d b (l.map swapA) ((l.map swapA).length : Int) 0 nodes (l.map swapA)) R := by
  have hlm : (l.map swapA).length = l.length := List.length_map ..
  have hP := downto (P := fun i => Ev (fun k => impl_Net_toward.l1 k (passM (l.take i) (d, b)).1 (passM (l.take i) (d, b)).2 (l.map swapA) ((l.map swapA).length : Int) (i : Int) nodes (l.map swapA)) R) (n := l.length) ?_ ?_
  · exact hP
  · refine Ev.step (fun k => ?_) hR
    simp only [impl_Net_toward.l1]
    rw [if_neg (by omega), List.take_length]
  · intro i hi hnext
    refine Ev.step (fun k => ?_) hnext
    have ha := List.getElem_mem hi
    obtain ⟨h0, h1, h2, h3, h4, h5⟩ := hg _ ha
    have hinv : Inv n l s (passM (l.take i) (d, b)).1 := by
      rcases passM_inv hg (l.take i) (fun a ha => List.mem_of_mem_take ha) b h with ⟨e, _⟩ | ⟨_, e, _⟩
      · rw [e]; exact h
      · exact e
    have hsucc : passM (l.take (i + 1)) (d, b) = stepM (passM (l.take i) (d, b)) l[i] := by
      unfold passM
      rw [List.take_succ_eq_append_getElem hi, List.foldl_append]
      rfl
    rw [hsucc]
    generalize passM (l.take i) (d, b) = st at hinv
    obtain ⟨D, B⟩ := st
    simp only at hinv
    have hD := hinv.len
    have hx : rd_T61 (l.map swapA) (i : Int) = swapA l[i] := by
      rw [rd_T61_at _ i (by omega)]
      simp
    have bu := hinv.bounds hg h0 h1
    have hc0 := sumC_nonneg _ (hinv.nonneg hg).1
    have hr := hinv.room _ h0 h1
    have hFar : Far = (99999 : Int) := rfl
    simp only [impl_Net_toward.l1, hx, swapA, rdM_ms]
    rw [if_pos (by omega), if_pos (by omega), if_pos (by omega), if_pos h0, if_pos (by omega)]
    unfold stepM
    simp only
    by_cases hf : (ms D l[i].f0).f0 = 99999
    · rw [if_pos hf, if_pos hf, w64s (by omega)]
    · rw [if_neg hf, if_neg hf, if_pos h2, if_pos (by omega), w64 (n := (ms D l[i].f0).f0 + l[i].f2) (by omega), w64 (n := (ms D l[i].f0).f1 + 1) (by omega), less_lessM, Option.bind_some, w64s (by omega)]
      by_cases hless : lessM ((ms D l[i].f0).f0 + l[i].f2) ((ms D l[i].f0).f1 + 1) (ms D l[i].f1).f0 (ms D l[i].f1).f1 = true
      · rw [if_pos hless, if_pos hless]
      · rw [if_neg hless, if_neg hless]
theorem toward_l0 {n : Nat} {l : List S61} {s : Int} (hg : Good n l) (hn : n ≤ 8) (hl : l.length ≤ 16) {nodes : Int} {d : List Ms} (h : Inv n l s d) :
    ∃ D, Ev (fun k => impl_Net_toward.l0 k d true nodes (l.map swapA)) D ∧ Inv n l s D ∧ TightM l D := by
  refine rounds_end hg (P := fun d => ∃ D, Ev (fun k => impl_Net_toward.l0 k d true nodes (l.map swapA)) D ∧ Inv n l s D ∧ TightM l D) ?_ ?_ d h
  · intro d h hflag ⟨D, hD, hI, hT⟩
    refine ⟨D, ?_, hI, hT⟩
    refine Ev.step (G := fun k => impl_Net_toward.l1 k d false (l.map swapA) ((l.map swapA).length : Int) 0 nodes (l.map swapA)) (fun k => by simp only [impl_Net_toward.l0, if_true]) ?_
    exact toward_l1 hg hn hl false h (by rw [hflag]; exact hD)
  · intro d h he ht
    refine ⟨d, ?_, h, ht⟩
    refine Ev.step (G := fun k => impl_Net_toward.l1 k d false (l.map swapA) ((l.map swapA).length : Int) 0 nodes (l.map swapA)) (fun k => by simp only [impl_Net_toward.l0, if_true]) ?_
    refine toward_l1 hg hn hl false h ?_
    rw [he]
    exact Ev.step (G := fun _ => some d) (fun k => by simp only [impl_Net_toward.l0]; rw [if_neg (by simp)]) (Ev.ret _)
theorem sumC_replicate (x : Ms) : ∀ n, sumC (List.replicate n x) = n * x.f0
  | 0 => by simp [sumC]
  | n + 1 => by
    rw [List.replicate_succ, sumC, sumC_replicate x n, Int.natCast_succ, Int.add_mul]
    omega
def m0 (n : Nat) (s : Int) : List Ms := (List.replicate n (⟨99999, 0⟩ : Ms)).set s.toNat ⟨0, 0⟩
theorem m0_inv {n : Nat} {l : List S61} {s : Int} (hs : 0 ≤ s ∧ s < n) : Inv n l s (m0 n s) := by
  have hr : ∀ y : Int, 0 ≤ y → ms (m0 n s) y = if y = s then ⟨0, 0⟩ else ms (List.replicate n (⟨99999, 0⟩ : Ms)) y := fun y hy => ms_set _ s hs.1 (by simp; omega) _ y hy
  have hrep : ∀ y : Int, 0 ≤ y → y < n → ms (List.replicate n (⟨99999, 0⟩ : Ms)) y = ⟨99999, 0⟩ := by
    intro y hy hyn
    obtain ⟨y, rfl⟩ := Int.eq_ofNat_of_zero_le hy
    have : y < n := by omega
    simp [ms, this]
  refine ⟨by simp [m0], by rw [hr s hs.1, if_pos rfl], fun y hy hyn => ?_, fun y hy hyn hys hf => ?_, fun y hy hyn => ?_⟩
  · rw [hr y hy]
    by_cases e : y = s
    · subst e
      rw [if_pos rfl]
      exact .inr ⟨Int.le_refl _, by decide, 0, rfl, WalkN.nil⟩
    · rw [if_neg e, hrep y hy hyn]
      exact .inl ⟨rfl, rfl⟩
  · exfalso
    rw [hr y hy, if_neg hys, hrep y hy hyn] at hf
    exact hf rfl
  · have hC := sumC_set (List.replicate n (⟨99999, 0⟩ : Ms)) s.toNat ⟨0, 0⟩ (by simp; omega)
    have e1 : (List.replicate n (⟨99999, 0⟩ : Ms)).getD s.toNat ⟨0, 0⟩ = ⟨99999, 0⟩ := hrep s hs.1 hs.2
    rw [e1, sumC_replicate] at hC
    show (ms (m0 n s) y).f1 + sumC (m0 n s) ≤ _
    have e2 : (ms (m0 n s) y).f1 = 0 := by
      rw [hr y hy]
      split
      · rfl
      · rw [hrep y hy hyn]
    rw [e2]
    unfold m0
    rw [hC]
    simp only
    omega
/-- ONE LIST, and of least costs -/
theorem from_dist {nodes s : Int} {l : List S61} (h : netOkB nodes l = true) (hs : 0 ≤ s ∧ s < nodes) :
    ∃ D : List Int, Ev (fun k => impl_Net_from.f k nodes l s) D ∧ IsDist nodes.toNat l s D := by
  obtain ⟨n1, n2, n3⟩ := Good.nodes h
  have hg := netOk_good h
  obtain ⟨n, rfl⟩ := Int.eq_ofNat_of_zero_le (show 0 ≤ nodes by omega)
  simp only [Int.toNat_natCast] at hg ⊢
  obtain ⟨M, hM, hI, hT⟩ := toward_l0 (nodes := (n : Int)) hg (by omega) n3 (m0_inv (l := l) hs)
  have hlen := hI.len
  have hrd : ∀ y : Int, 0 ≤ y → y < n → rd (M.map (·.f0)) y = (ms M y).f0 := by
    intro y hy hyn
    obtain ⟨y, rfl⟩ := Int.eq_ofNat_of_zero_le hy
    rw [rd_at0 _ y (by simp; omega)]
    have : y < M.length := by omega
    simp [ms, this]
  have hdist : IsDist n l s (M.map (·.f0)) := by
    refine ⟨by simp [hlen], ?_, ?_, ?_, ?_⟩
    · rintro y c ⟨k, w⟩
      have hy := w.node hg hs
      rw [hrd y hy.1 hy.2]
      exact (tight_least hg (by omega) hs hI hT w).1
    · intro y hy hyn hf
      rw [hrd y hy hyn] at hf ⊢
      obtain ⟨k, _, w⟩ := few_of hg hI hT hy hyn hf
      exact ⟨k, w⟩
    · intro y hy hyn
      rw [hrd y hy hyn]
      by_cases e : (ms M y).f0 = Far
      · exact .inl e
      · obtain ⟨k, hk, w⟩ := few_of hg hI hT hy hyn e
        have := w.cost hg
        exact .inr ⟨this.1, by omega⟩
    · intro y hy hyn hf
      rw [hrd y hy hyn] at hf ⊢
      obtain ⟨k, hk, w⟩ := few_of hg hI hT hy hyn hf
      exact ⟨k, by omega, w⟩
  refine ⟨M.map (·.f0), ?_, hdist⟩
  · unfold impl_Net_from.f
    refine Ev.bind (back_ev n l (by omega)) (Ev.bind (a := M) ?_ (Ev.bind (costs_ev M (by omega)) (Ev.ret _)))
    simp only
    refine Ev.congr (G := fun k => impl_Net_toward.l0 k (m0 n s) true n (l.map swapA)) (fun k => ?_) hM
    unfold impl_Net_toward.f slices_Repeat_measure.f
    rw [if_pos ⟨rfl, by omega, by omega⟩, Option.bind_some, if_pos hs.1, if_pos (by simp; omega)]
    rfl
theorem nearAll_ev {nodes s : Int} {l : List S61} {D : List Int} (h : netOkB nodes l = true) (hs : inB nodes s = true) (hD : Ev (fun k => impl_Net_from.f k nodes l s) D) : Ev (fun k => impl_NearAll.f k nodes l s) D := by
  unfold impl_NearAll.f impl_nodesIn.f impl_NetOk.f impl_Net_has.f
  simp only [h, hs, Option.bind_some, if_true, List.all_cons, List.all_nil, Bool.and_self]
  exact Ev.bind hD (Ev.ret _)
end Go.Proofs.Ytdlaaccnaokdnaa.M
set_option linter.unusedVariables false
namespace Go.Proofs.Ytdlaaccnaokdnaa.M
open Go.RowKit Go.Proofs.Ytdlaaccnaokdnaa.P Go.Proofs.YtdlaaccnaokdnaaV.PrintWords Go.Proofs.YtdlaaccnaokdnaaV.PrintMore

theorem WalkN.cons {l : List S61} {a : S61} (h : a ∈ l) {k : Nat} {y c : Int} (w : WalkN l a.f1 k y c) : WalkN l a.f0 (k + 1) y (a.f2 + c) := by
  generalize hs : a.f1 = s at w
  induction w with
  | nil =>
    subst hs
    have := WalkN.snoc (WalkN.nil (l := l) (s := a.f0)) h
    rw [Int.zero_add] at this
    rw [Int.add_zero]
    exact this
  | snoc w hb ih =>
    have := WalkN.snoc ih hb
    rw [Int.add_assoc] at this
    exact this
theorem WalkN.append {l : List S61} {s : Int} {k : Nat} {y c : Int} (w : WalkN l s k y c) {j : Nat} {z e : Int} (v : WalkN l y j z e) : WalkN l s (k + j) z (c + e) := by
  induction v with
  | nil =>
    rw [Int.add_zero]
    exact w
  | snoc v hb ih =>
    have := WalkN.snoc ih hb
    rw [Int.add_assoc] at this
    exact this
theorem Walk.append {l : List S61} {s y z c e : Int} (w : Walk l s y c) (v : Walk l y z e) : Walk l s z (c + e) := by
  obtain ⟨k, w⟩ := w
  obtain ⟨j, v⟩ := v
  exact ⟨k + j, w.append v⟩
theorem Walk.nil {l : List S61} {s : Int} : Walk l s s 0 := ⟨0, WalkN.nil⟩
theorem Walk.snoc {l : List S61} {s : Int} {a : S61} {c : Int} (w : Walk l s a.f0 c) (h : a ∈ l) : Walk l s a.f1 (c + a.f2) := by
  obtain ⟨k, w⟩ := w
  exact ⟨k + 1, w.snoc h⟩
theorem Walk.one {l : List S61} {a : S61} (h : a ∈ l) : Walk l a.f0 a.f1 a.f2 := by
  have := Walk.snoc (Walk.nil (l := l) (s := a.f0)) h
  rwa [Int.zero_add] at this
theorem Walk.mono {l m : List S61} (hlm : ∀ a ∈ l, a ∈ m) {s y c : Int} (w : Walk l s y c) : Walk m s y c := by
  obtain ⟨k, w⟩ := w
  induction w with
  | nil => exact Walk.nil
  | snoc w h ih => exact ih.snoc (hlm _ h)
theorem swap_swap (l : List S61) : (l.map swapA).map swapA = l := by
  induction l with
  | nil => rfl
  | cons a l ih => rw [List.map_cons, List.map_cons, ih]; rfl
theorem WalkN.swap {l : List S61} {s : Int} {k : Nat} {y c : Int} (w : WalkN l s k y c) : WalkN (l.map swapA) y k s c := by
  induction w with
  | nil => exact WalkN.nil
  | @snoc a k c w h ih =>
    have := WalkN.cons (a := swapA a) (List.mem_map_of_mem h) (show WalkN (l.map swapA) (swapA a).f1 k s c from ih)
    rw [Int.add_comm]
    exact this
theorem walk_swap {l : List S61} {s y c : Int} : Walk (l.map swapA) y s c ↔ Walk l s y c := by
  constructor
  · rintro ⟨k, w⟩
    have := w.swap
    rw [swap_swap] at this
    exact ⟨k, this⟩
  · rintro ⟨k, w⟩
    exact ⟨k, w.swap⟩
theorem good_swap {n : Nat} {l : List S61} (h : Good n l) : Good n (l.map swapA) := by
  intro a ha
  obtain ⟨b, hb, rfl⟩ := List.mem_map.1 ha
  obtain ⟨h0, h1, h2, h3, h4, h5⟩ := h b hb
  exact ⟨h2, h3, h0, h1, h4, h5⟩
theorem badArc_swap (nodes : Int) (a : S61) : badArc nodes (swapA a) = badArc nodes a := by
  unfold badArc swapA
  simp only
  rw [Bool.and_comm (inB nodes a.f1), show (a.f1 == a.f0) = (a.f0 == a.f1) from BEq.comm]
theorem netOk_swap (nodes : Int) (l : List S61) : netOkB nodes (l.map swapA) = netOkB nodes l := by
  unfold netOkB
  rw [List.length_map, List.any_map]
  congr 2
  congr 1
  funext a
  exact badArc_swap nodes a
theorem IsDist.le {n : Nat} {l : List S61} {s : Int} {D : List Int} (h : IsDist n l s D) {y c : Int} (h0 : 0 ≤ y) (h1 : y < n) (w : Walk l s y c) (hc : c < Far) : rd D y ≠ Far ∧ rd D y ≤ c ∧ 0 ≤ rd D y ∧ rd D y ≤ 693 := by
  have := h.least y c w
  have hFar : Far = (99999 : Int) := rfl
  rcases h.few y h0 h1 with e | e
  · omega
  · exact ⟨by omega, this, e.1, e.2⟩
theorem IsDist.leFar {n : Nat} {l : List S61} {s : Int} {D : List Int} (h : IsDist n l s D) {y : Int} (h0 : 0 ≤ y) (h1 : y < n) : 0 ≤ rd D y ∧ rd D y ≤ 99999 ∧ (rd D y ≠ 99999 → rd D y ≤ 693) := by
  have hFar : Far = (99999 : Int) := rfl
  rcases h.few y h0 h1 with e | e <;> omega
theorem IsDist.self {n : Nat} {l : List S61} {s : Int} {D : List Int} (h : IsDist n l s D) (hs : 0 ≤ s ∧ s < n) : rd D s = 0 := by
  have := h.le hs.1 hs.2 Walk.nil (by decide)
  omega
/-- where the same walks lead, the same numbers stand -/
theorem dist_le {n : Nat} {l m : List S61} {s t y z : Int} {D E : List Int} (hD : IsDist n l s D) (hE : IsDist n m t E) (hy : 0 ≤ y ∧ y < n) (hz : 0 ≤ z ∧ z < n) (hw : ∀ c, Walk m t z c → Walk l s y c) : rd D y ≤ rd E z := by
  have hFar : Far = (99999 : Int) := rfl
  rcases hE.few z hz.1 hz.2 with e | e
  · have := hD.leFar hy.1 hy.2
    omega
  · exact hD.least y _ (hw _ (hE.walk z hz.1 hz.2 (by omega)))
theorem dist_congr {n : Nat} {l m : List S61} {s t y z : Int} {D E : List Int} (hD : IsDist n l s D) (hE : IsDist n m t E) (hy : 0 ≤ y ∧ y < n) (hz : 0 ≤ z ∧ z < n) (hw : ∀ c, Walk m t z c ↔ Walk l s y c) : rd D y = rd E z :=
  Int.le_antisymm (dist_le hD hE hy hz (fun c => (hw c).1)) (dist_le hE hD hz hy (fun c => (hw c).2))
theorem dist_rev {n : Nat} {l : List S61} {s t : Int} {D E : List Int} (hD : IsDist n l s D) (hE : IsDist n (l.map swapA) t E) (hs : 0 ≤ s ∧ s < n) (ht : 0 ≤ t ∧ t < n) : rd D t = rd E s :=
  dist_congr hD hE ht hs (fun c => walk_swap)
theorem list_ext {n : Nat} {D E : List Int} (h1 : D.length = n) (h2 : E.length = n) (h : ∀ i : Nat, i < n → rd D (i : Int) = rd E (i : Int)) : D = E := by
  apply List.ext_getElem (by omega)
  intro i h1' h2'
  have := h i (by omega)
  rwa [rd_at0 _ i h1', rd_at0 _ i h2'] at this
theorem dist_uniq {n : Nat} {l m : List S61} {s : Int} {D E : List Int} (hD : IsDist n l s D) (hE : IsDist n m s E) (hw : ∀ y c, Walk m s y c ↔ Walk l s y c) : D = E :=
  list_ext hD.len hE.len (fun i hi => dist_congr hD hE ⟨by omega, by omega⟩ ⟨by omega, by omega⟩ (hw _))
/-- one arc more -/
theorem dist_arc {n : Nat} {l : List S61} (hg : Good n l) {s : Int} {D : List Int} (hD : IsDist n l s D) {a : S61} (ha : a ∈ l) (hf : rd D a.f0 ≠ Far) : rd D a.f1 ≠ Far ∧ rd D a.f1 ≤ rd D a.f0 + a.f2 := by
  obtain ⟨h0, h1, h2, h3, h4, h5⟩ := hg a ha
  have hFar : Far = (99999 : Int) := rfl
  have hb := hD.leFar h0 h1
  have := hD.le h2 h3 ((hD.walk _ h0 h1 hf).snoc ha) (by omega)
  exact ⟨this.1, this.2.1⟩
/-- the way over a node -/
theorem dist_over {n : Nat} {l : List S61} {s m : Int} {D E : List Int} (hD : IsDist n l s D) (hE : IsDist n l m E) (hm : 0 ≤ m ∧ m < n) {t : Int} (ht : 0 ≤ t ∧ t < n) (h1 : rd D m ≠ Far) (h2 : rd E t ≠ Far) : rd D t ≠ Far ∧ rd D t ≤ rd D m + rd E t := by
  have hFar : Far = (99999 : Int) := rfl
  have b1 := hD.leFar hm.1 hm.2
  have b2 := hE.leFar ht.1 ht.2
  have := hD.le ht.1 ht.2 ((hD.walk _ hm.1 hm.2 h1).append (hE.walk _ ht.1 ht.2 h2)) (by omega)
  exact ⟨this.1, this.2.1⟩
end Go.Proofs.Ytdlaaccnaokdnaa.M
set_option linter.unusedVariables false
namespace Go.Proofs.Ytdlaaccnaokdnaa.M
open Go.RowKit Go.Proofs.Ytdlaaccnaokdnaa.P Go.Proofs.YtdlaaccnaokdnaaV.PrintWords Go.Proofs.YtdlaaccnaokdnaaV.PrintMore
/-- m is taken ahead of a -/
def Bf (l : List Int) (m a : Int) : Prop := ∃ pre later, l = pre ++ m :: later ∧ a ∈ later
theorem split_uniq {m : Int} : ∀ {pre pre' later later' : List Int}, (pre ++ m :: later).Nodup → pre ++ m :: later = pre' ++ m :: later' → later = later'
  | [], [], _, _, _, e => (List.cons.inj e).2
  | [], p :: pre', later, later', hn, e => by
    obtain ⟨e1, e2⟩ := List.cons.inj e
    have := (List.nodup_cons.1 hn).1
    exact absurd (e2 ▸ (by simp : m ∈ pre' ++ m :: later')) this
  | p :: pre, [], later, later', hn, e => by
    obtain ⟨e1, e2⟩ := List.cons.inj e
    have := (List.nodup_cons.1 hn).1
    exact absurd (e1 ▸ (by simp : m ∈ pre ++ m :: later)) this
  | p :: pre, q :: pre', later, later', hn, e => split_uniq (List.nodup_cons.1 hn).2 (List.cons.inj e).2
theorem bf_total {a b : Int} : ∀ {l : List Int}, a ∈ l → b ∈ l → a ≠ b → Bf l a b ∨ Bf l b a
  | [], ha, _, _ => by cases ha
  | x :: l, ha, hb, hab => by
    rcases List.mem_cons.1 ha with e1 | ha2
    · rcases List.mem_cons.1 hb with e2 | hb2
      · exact absurd (e1.trans e2.symm) hab
      · exact .inl ⟨[], l, by rw [e1]; rfl, hb2⟩
    · rcases List.mem_cons.1 hb with e2 | hb2
      · exact .inr ⟨[], l, by rw [e2]; rfl, ha2⟩
      · rcases bf_total ha2 hb2 hab with ⟨p, q, e, h⟩ | ⟨p, q, e, h⟩
        · exact .inl ⟨x :: p, q, by rw [e]; rfl, h⟩
        · exact .inr ⟨x :: p, q, by rw [e]; rfl, h⟩
theorem Bf.ne {l : List Int} (hn : l.Nodup) {a b : Int} (h : Bf l a b) : a ≠ b := by
  obtain ⟨p, q, rfl, hb⟩ := h
  rintro rfl
  have := (List.nodup_append.1 hn).2.1
  exact (List.nodup_cons.1 this).1 hb
theorem Bf.mem {l : List Int} {a b : Int} (h : Bf l a b) : a ∈ l ∧ b ∈ l := by
  obtain ⟨p, q, rfl, hb⟩ := h
  exact ⟨by simp, by simp [hb]⟩
/-- what bends: over a node that is taken ahead of both -/
def Bends (l : List Int) (C : Int → Int → Int) : Prop := ∀ m a b : Int, Bf l m a → Bf l m b → a ≠ b → C a b ≤ C a m + C m b
theorem rkAll_bends {l : List Int} (hn : l.Nodup) {s : Tabs} (h : Box s) : Bends l (rkAll l s).1 := by
  rintro m a b ⟨p, q, e, ha⟩ ⟨p', q', e', hb⟩ hab
  have : q = q' := split_uniq (e ▸ hn) (e.symm.trans e')
  exact rkAll_tri l hn h p q m e a ha b (this ▸ hb) hab
inductive UpP (l : List Int) (C : Int → Int → Int) (s : Int) : Int → Int → Prop
  | nil : UpP l C s s 0
  | snoc {y z c : Int} (w : UpP l C s y c) (h : Bf l y z) : UpP l C s z (c + C y z)
inductive DnP (l : List Int) (C : Int → Int → Int) (m : Int) : Int → Int → Prop
  | nil : DnP l C m m 0
  | snoc {y z c : Int} (w : DnP l C m y c) (h : Bf l z y) : DnP l C m z (c + C y z)
theorem bend {l : List Int} {C : Int → Int → Int} (hb : Bends l C) (h0 : ∀ a b, 0 ≤ C a b) {s m y e : Int} (d : DnP l C m y e) (hm : y ∈ l) : ∀ (z w u : Int), UpP l C s m u → z ∈ l → y ≠ z → C y z ≤ w → ∃ m' u' e', UpP l C s m' u' ∧ DnP l C m' z e' ∧ u' + e' ≤ u + e + w := by
  induction d with
  | nil =>
    intro z w u hu hz hne hw
    rcases bf_total hm hz hne with h | h
    · exact ⟨z, _, _, hu.snoc h, .nil, by omega⟩
    · exact ⟨m, u, _, hu, DnP.nil.snoc h, by omega⟩
  | snoc d h ih =>
    rename_i v y c
    intro z w u hu hz hne hw
    rcases bf_total hm hz hne with h2 | h2
    · have hv := h.mem.2
      have n1 := h0 v y
      have n2 := h0 y z
      by_cases e : v = z
      · subst e
        exact ⟨m, u, c, hu, d, by omega⟩
      · obtain ⟨m', u', e', a1, a2, a3⟩ := ih hv z (C v y + w) u hu hz e (by have := hb y v z h h2 e; omega)
        exact ⟨m', u', e', a1, a2, by omega⟩
    · exact ⟨m, u, _, hu, (d.snoc h).snoc h2, by omega⟩
/-- in m's turn: an entry is as it was, or goes over m -/
def Via (m : Int) (later : List Int) (s t : Tabs) : Prop := ∀ a b : Int, (t.1 a b = s.1 a b ∧ t.2 a b = s.2 a b) ∨ (a ≠ b ∧ a ∈ later ∧ b ∈ later ∧ t.2 a b = m ∧ t.1 a b = s.1 a m + s.1 m b)
theorem Via.fix {m : Int} {later : List Int} (hm : m ∉ later) {s t : Tabs} (h : Via m later s t) (x : Int) : t.1 x m = s.1 x m ∧ t.1 m x = s.1 m x := by
  constructor
  · rcases h x m with h1 | h1
    · exact h1.1
    · exact absurd h1.2.2.1 hm
  · rcases h m x with h1 | h1
    · exact h1.1
    · exact absurd h1.2.1 hm
theorem rkAB_via {m : Int} {later : List Int} (hm : m ∉ later) {s t : Tabs} (h : Via m later s t) {a b : Int} (ha : a ∈ later) (hb : b ∈ later) : Via m later s (rkAB m t a b) := by
  unfold rkAB
  by_cases hc : a ≠ b ∧ t.1 a m < 99999 ∧ t.1 m b < 99999 ∧ t.1 a m + t.1 m b < t.1 a b
  · rw [if_pos hc]
    intro x y
    show (upd t.1 a b (t.1 a m + t.1 m b) x y = s.1 x y ∧ upd t.2 a b m x y = s.2 x y) ∨ (x ≠ y ∧ x ∈ later ∧ y ∈ later ∧ upd t.2 a b m x y = m ∧ upd t.1 a b (t.1 a m + t.1 m b) x y = s.1 x m + s.1 m y)
    unfold upd
    by_cases e : x = a ∧ y = b
    · rw [if_pos e, if_pos e]
      refine .inr ⟨by rw [e.1, e.2]; exact hc.1, e.1 ▸ ha, e.2 ▸ hb, rfl, ?_⟩
      rw [(h.fix hm a).1, (h.fix hm b).2, e.1, e.2]
    · rw [if_neg e, if_neg e]; exact h x y
  · rw [if_neg hc]; exact h
theorem rkRow_via {m a : Int} {later : List Int} (hm : m ∉ later) (ha : a ∈ later) {s : Tabs} : ∀ (l : List Int), (∀ b ∈ l, b ∈ later) → ∀ {t : Tabs}, Via m later s t → Via m later s (l.foldl (fun s b => rkAB m s a b) t)
  | [], _, t, h => h
  | b :: l, hl, t, h => rkRow_via hm ha l (fun x hx => hl x (by simp [hx])) (rkAB_via hm h ha (hl b (by simp)))
theorem rkNode_via {m : Int} {later : List Int} (hm : m ∉ later) {s : Tabs} : ∀ (l : List Int), (∀ b ∈ l, b ∈ later) → ∀ {t : Tabs}, Via m later s t → Via m later s (l.foldl (rkRow m later) t)
  | [], _, t, h => h
  | a :: l, hl, t, h => rkNode_via hm l (fun x hx => hl x (by simp [hx])) (rkRow_via hm (hl a (by simp)) later (fun _ x => x) h)
theorem Bf.cons {l : List Int} {m a : Int} (x : Int) (h : Bf l m a) : Bf (x :: l) m a := by
  obtain ⟨p, q, e, ha⟩ := h
  exact ⟨x :: p, q, by rw [e]; rfl, ha⟩
/-- in the end: an entry is as at first, or goes over a node that is taken ahead of both its ends, and costs as much as by way of it -/
theorem rkAll_over : ∀ (l : List Int), l.Nodup → ∀ (s : Tabs) (a b : Int), ((rkAll l s).1 a b = s.1 a b ∧ (rkAll l s).2 a b = s.2 a b) ∨ (a ≠ b ∧ Bf l ((rkAll l s).2 a b) a ∧ Bf l ((rkAll l s).2 a b) b ∧ (rkAll l s).1 a b = (rkAll l s).1 a ((rkAll l s).2 a b) + (rkAll l s).1 ((rkAll l s).2 a b) b)
  | [], _, s, a, b => .inl ⟨rfl, rfl⟩
  | m :: l, hn, s, a, b => by
    have hn2 := List.nodup_cons.1 hn
    have hv : Via m l s (rkNode m l s) := rkNode_via hn2.1 l (fun _ x => x) (fun _ _ => .inl ⟨rfl, rfl⟩)
    have hd := rkAll_dn l (rkNode m l s)
    show ((rkAll l (rkNode m l s)).1 a b = s.1 a b ∧ (rkAll l (rkNode m l s)).2 a b = s.2 a b) ∨ _
    rcases rkAll_over l hn2.2 (rkNode m l s) a b with ⟨e1, e2⟩ | ⟨h1, h2, h3, h4⟩
    · rcases hv a b with ⟨f1, f2⟩ | ⟨g1, g2, g3, g4, g5⟩
      · exact .inl ⟨e1.trans f1, e2.trans f2⟩
      · refine .inr ⟨g1, ?_, ?_, ?_⟩
        · show Bf (m :: l) ((rkAll l (rkNode m l s)).2 a b) a
          rw [e2, g4]
          exact ⟨[], l, rfl, g2⟩
        · show Bf (m :: l) ((rkAll l (rkNode m l s)).2 a b) b
          rw [e2, g4]
          exact ⟨[], l, rfl, g3⟩
        · show (rkAll l (rkNode m l s)).1 a b = (rkAll l (rkNode m l s)).1 a ((rkAll l (rkNode m l s)).2 a b) + (rkAll l (rkNode m l s)).1 ((rkAll l (rkNode m l s)).2 a b) b
          rw [e2, g4, e1, g5, (hd.out a m (fun z => hn2.1 z.2)).1, (hd.out m b (fun z => hn2.1 z.1)).1, (hv.fix hn2.1 a).1, (hv.fix hn2.1 b).2]
    · exact .inr ⟨h1, h2.cons m, h3.cons m, h4⟩
section
variable {R : Int → Prop} {d : Int → Int → Int}
def Ge (R : Int → Prop) (d : Int → Int → Int) (s : Tabs) : Prop := ∀ x y : Int, R x → R y → d x y ≤ s.1 x y
theorem rkAB_ge (ht : ∀ a m b, R a → R m → R b → d a b ≤ d a m + d m b) {s : Tabs} (h : Ge R d s) {m a b : Int} (hm : R m) : Ge R d (rkAB m s a b) := by
  unfold rkAB
  by_cases hc : a ≠ b ∧ s.1 a m < 99999 ∧ s.1 m b < 99999 ∧ s.1 a m + s.1 m b < s.1 a b
  · rw [if_pos hc]
    intro x y hx hy
    show d x y ≤ upd s.1 a b (s.1 a m + s.1 m b) x y
    unfold upd
    by_cases e : x = a ∧ y = b
    · rw [if_pos e, ← e.1, ← e.2]
      have h1 := ht x m y hx hm hy
      have h2 := h x m hx hm
      have h3 := h m y hm hy
      omega
    · rw [if_neg e]; exact h x y hx hy
  · rw [if_neg hc]; exact h
theorem rkRow_ge (ht : ∀ a m b, R a → R m → R b → d a b ≤ d a m + d m b) {m a : Int} (hm : R m) : ∀ (l : List Int) {s : Tabs}, Ge R d s → Ge R d (l.foldl (fun s b => rkAB m s a b) s)
  | [], s, h => h
  | b :: l, s, h => rkRow_ge ht hm l (rkAB_ge ht h hm)
theorem rkNode_ge (ht : ∀ a m b, R a → R m → R b → d a b ≤ d a m + d m b) {m : Int} {later : List Int} (hm : R m) : ∀ (l : List Int) {s : Tabs}, Ge R d s → Ge R d (l.foldl (rkRow m later) s)
  | [], s, h => h
  | a :: l, s, h => rkNode_ge ht hm l (rkRow_ge ht hm later h)
theorem rkAll_ge (ht : ∀ a m b, R a → R m → R b → d a b ≤ d a m + d m b) : ∀ (l : List Int) {s : Tabs}, (∀ x ∈ l, R x) → Ge R d s → Ge R d (rkAll l s)
  | [], s, _, h => h
  | m :: l, s, hl, h => rkAll_ge ht l (fun x hx => hl x (by simp [hx])) (rkNode_ge ht (hl m (by simp)) l h)
theorem up_ge (ht : ∀ a m b, R a → R m → R b → d a b ≤ d a m + d m b) {l : List Int} {C : Int → Int → Int} (hC : ∀ x y, R x → R y → d x y ≤ C x y) (hl : ∀ x ∈ l, R x) {s : Int} (hs : R s) (h0 : d s s ≤ 0) {y c : Int} (w : UpP l C s y c) : R y ∧ d s y ≤ c := by
  induction w with
  | nil => exact ⟨hs, h0⟩
  | snoc w h ih =>
    rename_i y z c
    have hz := hl z h.mem.2
    have h1 := ht s y z hs ih.1 hz
    have h2 := hC y z ih.1 hz
    exact ⟨hz, by omega⟩
theorem dn_ge (ht : ∀ a m b, R a → R m → R b → d a b ≤ d a m + d m b) {l : List Int} {C : Int → Int → Int} (hC : ∀ x y, R x → R y → d x y ≤ C x y) (hl : ∀ x ∈ l, R x) {m : Int} (hm : R m) (h0 : d m m ≤ 0) {y c : Int} (w : DnP l C m y c) : R y ∧ d m y ≤ c := by
  induction w with
  | nil => exact ⟨hm, h0⟩
  | snoc w h ih =>
    rename_i y z c
    have hz := hl z h.mem.1
    have h1 := ht m y z hm ih.1 hz
    have h2 := hC y z ih.1 hz
    exact ⟨hz, by omega⟩
end
end Go.Proofs.Ytdlaaccnaokdnaa.M
set_option linter.unusedVariables false
namespace Go.Proofs.Ytdlaaccnaokdnaa.M
open Go.RowKit Go.Proofs.Ytdlaaccnaokdnaa.P Go.Proofs.YtdlaaccnaokdnaaV.PrintWords Go.Proofs.YtdlaaccnaokdnaaV.PrintMore
/-- all distances of a net that is ok, as one function of lists -/
theorem dist_fun {nodes : Int} {l : List S61} (h : netOkB nodes l = true) : ∃ DS : Int → List Int, ∀ a : Int, 0 ≤ a ∧ a < nodes → Ev (fun k => impl_NearAll.f k nodes l a) (DS a) ∧ IsDist nodes.toNat l a (DS a) := by
  have : ∀ a : Int, ∃ D : List Int, 0 ≤ a ∧ a < nodes → Ev (fun k => impl_NearAll.f k nodes l a) D ∧ IsDist nodes.toNat l a D := by
    intro a
    by_cases ha : 0 ≤ a ∧ a < nodes
    · obtain ⟨D, h1, h2⟩ := from_dist h ha
      refine ⟨D, fun _ => ⟨nearAll_ev h ?_ h1, h2⟩⟩
      obtain ⟨b1, b2, _⟩ := rk_bounds h
      unfold inB
      rw [w64 (by omega)]
      simp
      omega
    · exact ⟨[], fun h => absurd h ha⟩
  exact ⟨fun a => (this a).choose, fun a ha => (this a).choose_spec ha⟩
theorem arcG_val (l : List S61) (a b : Int) : arcG l a b = 99999 ∨ ∃ x ∈ l, x.f0 = a ∧ x.f1 = b ∧ arcG l a b = x.f2 := by
  have : ∀ j, j ≤ l.length → arcG (l.take j) a b = 99999 ∨ ∃ x ∈ l, x.f0 = a ∧ x.f1 = b ∧ arcG (l.take j) a b = x.f2 := by
    intro j
    induction j with
    | zero => exact fun _ => .inl rfl
    | succ j ih =>
      intro hj
      have := ih (by omega)
      rw [arcG_succ l j (by omega)]
      generalize arcG (l.take j) = F at this ⊢
      unfold upd
      by_cases h2 : a = l[j].f0 ∧ b = l[j].f1
      · rw [if_pos h2, ← h2.1, ← h2.2]
        unfold mn
        by_cases h3 : l[j].f2 < F a b
        · rw [if_pos h3]
          exact .inr ⟨l[j], List.getElem_mem _, h2.1.symm, h2.2.symm, rfl⟩
        · rwa [if_neg h3]
      · rwa [if_neg h2]
  have h2 := this l.length (Nat.le_refl _)
  rwa [List.take_length] at h2
theorem foldl_arc_le : ∀ (l : List S61) (F : Int → Int → Int) (a b : Int), l.foldl (fun F x => upd F x.f0 x.f1 (mn (F x.f0 x.f1) x.f2)) F a b ≤ F a b
  | [], F, a, b => Int.le_refl _
  | x :: l, F, a, b => by
    refine Int.le_trans (foldl_arc_le l _ a b) ?_
    show upd F x.f0 x.f1 (mn (F x.f0 x.f1) x.f2) a b ≤ F a b
    unfold upd mn
    by_cases h2 : a = x.f0 ∧ b = x.f1
    · rw [if_pos h2, ← h2.1, ← h2.2]
      by_cases h3 : x.f2 < F a b
      · rw [if_pos h3]; omega
      · rw [if_neg h3]; exact Int.le_refl _
    · rw [if_neg h2]; exact Int.le_refl _
theorem arcG_le (l : List S61) (x : S61) (hx : x ∈ l) : arcG l x.f0 x.f1 ≤ x.f2 := by
  have : ∀ (l : List S61) (F : Int → Int → Int), x ∈ l → l.foldl (fun F x => upd F x.f0 x.f1 (mn (F x.f0 x.f1) x.f2)) F x.f0 x.f1 ≤ x.f2 := by
    intro l
    induction l with
    | nil => intro F h; cases h
    | cons y l ih =>
      intro F h
      rcases List.mem_cons.1 h with rfl | h
      · refine Int.le_trans (foldl_arc_le l _ _ _) ?_
        show upd F x.f0 x.f1 (mn (F x.f0 x.f1) x.f2) x.f0 x.f1 ≤ x.f2
        unfold upd mn
        rw [if_pos ⟨rfl, rfl⟩]
        by_cases h3 : x.f2 < F x.f0 x.f1
        · rw [if_pos h3]; exact Int.le_refl _
        · rw [if_neg h3]; omega
      · exact ih _ h
  exact this l far2 hx
section
variable {nodes : Int} {l : List S61} {DS : Int → List Int}
def InN (nodes : Int) (a : Int) : Prop := 0 ≤ a ∧ a < nodes
theorem ds_tri (h : netOkB nodes l = true) (hD : ∀ a : Int, InN nodes a → IsDist nodes.toNat l a (DS a)) : ∀ a m b : Int, InN nodes a → InN nodes m → InN nodes b → rd (DS a) b ≤ rd (DS a) m + rd (DS m) b := by
  intro a m b ha hm hb
  obtain ⟨b1, b2, _⟩ := rk_bounds h
  have e : (nodes.toNat : Int) = nodes := by omega
  have q1 := (hD a ha).leFar (y := m) hm.1 (by have := hm.2; omega)
  have q2 := (hD m hm).leFar (y := b) hb.1 (by have := hb.2; omega)
  have q3 := (hD a ha).leFar (y := b) hb.1 (by have := hb.2; omega)
  by_cases f1 : rd (DS a) m = Far
  · have : rd (DS a) m = 99999 := f1; omega
  by_cases f2 : rd (DS m) b = Far
  · have : rd (DS m) b = 99999 := f2; omega
  have w1 := (hD a ha).walk m hm.1 (by have := hm.2; omega) f1
  have w2 := (hD m hm).walk b hb.1 (by have := hb.2; omega) f2
  exact (hD a ha).least b _ (w1.append w2)
theorem ds_ge (h : netOkB nodes l = true) (hD : ∀ a : Int, InN nodes a → IsDist nodes.toNat l a (DS a)) : Ge (InN nodes) (fun a b => rd (DS a) b) (arcS l) := by
  intro a b ha hb
  obtain ⟨b1, b2, _⟩ := rk_bounds h
  have q3 := (hD a ha).leFar (y := b) hb.1 (by have := hb.2; omega)
  show rd (DS a) b ≤ arcG l a b
  rcases arcG_val l a b with e | ⟨x, hx, rfl, rfl, e⟩
  · rw [e]; exact q3.2.1
  · rw [e]; exact (hD _ ha).least _ _ (Walk.one hx)
theorem rk_ge (h : netOkB nodes l = true) (hD : ∀ a : Int, InN nodes a → IsDist nodes.toNat l a (DS a)) {o : List Int} (ho : Ord o nodes) : Ge (InN nodes) (fun a b => rd (DS a) b) (rkAll o (arcS l)) :=
  rkAll_ge (ds_tri h hD) o (fun x hx => ho.2.2 x hx) (ds_ge h hD)
theorem rk_le_arc {o : List Int} {x : S61} (hx : x ∈ l) : (rkAll o (arcS l)).1 x.f0 x.f1 ≤ x.f2 :=
  Int.le_trans ((rkAll_dn o (arcS l)).le _ _) (arcG_le l x hx)
end
end Go.Proofs.Ytdlaaccnaokdnaa.M
set_option linter.unusedVariables false
namespace Go.Proofs.Ytdlaaccnaokdnaa.M
open Go.RowKit Go.Proofs.Ytdlaaccnaokdnaa.P Go.Proofs.YtdlaaccnaokdnaaV.PrintWords Go.Proofs.YtdlaaccnaokdnaaV.PrintMore
theorem walk_bends {order : List Int} {C : Int → Int → Int} (hb : Bends order C) (h0 : ∀ a b, 0 ≤ C a b) {l : List S61} (hl : ∀ x ∈ l, x.f0 ≠ x.f1 ∧ C x.f0 x.f1 ≤ x.f2 ∧ x.f0 ∈ order ∧ x.f1 ∈ order) {s : Int} (hs : s ∈ order) {k : Nat} {y c : Int} (w : WalkN l s k y c) : y ∈ order ∧ ∃ m u e, UpP order C s m u ∧ DnP order C m y e ∧ u + e ≤ c := by
  induction w with
  | nil => exact ⟨hs, s, 0, 0, .nil, .nil, by omega⟩
  | snoc w hx ih =>
    rename_i x k c
    obtain ⟨h1, h2, h3, h4⟩ := hl x hx
    obtain ⟨hy, m, u, e, a1, a2, a3⟩ := ih
    obtain ⟨m', u', e', b1, b2, b3⟩ := bend hb h0 a2 hy x.f1 x.f2 u a1 h4 h1 h2
    exact ⟨h4, m', u', e', b1, b2, by omega⟩
end Go.Proofs.Ytdlaaccnaokdnaa.M
set_option linter.unusedVariables false
namespace Go.Proofs.Ytdlaaccnaokdnaa.M
open Go.RowKit Go.Proofs.Ytdlaaccnaokdnaa.P Go.Proofs.YtdlaaccnaokdnaaV.PrintWords Go.Proofs.YtdlaaccnaokdnaaV.PrintMore
theorem ord_mem {o : List Int} {n : Int} (h : Ord o n) {x : Int} (hx : 0 ≤ x ∧ x < n) : x ∈ o := by
  obtain ⟨h1, h2⟩ := ord_sorted.1 h
  have h3 := h2 x.toNat (by omega)
  have h4 : x.toNat < (srt o).length := by rw [srt_len]; omega
  rw [rd_at0 _ _ h4] at h3
  have h5 := List.getElem_mem h4
  rw [h3] at h5
  have h6 := (List.mergeSort_perm o (fun x y => decide (x ≤ y))).mem_iff.1 h5
  rwa [show ((x.toNat : Nat) : Int) = x from by omega] at h6
section
variable {K : Int → Int → Int}
theorem cl1_out {m b y : Int} {d : Int → Int} (h : y ≠ b) : cl1 K m d b y = d y := by
  unfold cl1 upd1
  by_cases hc : d m < 99999 ∧ K m b < 99999
  · rw [if_pos hc, if_neg h]
  · rw [if_neg hc]
theorem cl1_le {m b : Int} {d : Int → Int} (y : Int) : cl1 K m d b y ≤ d y := by
  by_cases h : y = b
  · subst h
    unfold cl1 upd1 mn
    by_cases hc : d m < 99999 ∧ K m y < 99999
    · rw [if_pos hc, if_pos rfl]
      by_cases h2 : d m + K m y < d y
      · rw [if_pos h2]; omega
      · rw [if_neg h2]; exact Int.le_refl _
    · rw [if_neg hc]; exact Int.le_refl _
  · rw [cl1_out h]; exact Int.le_refl _
theorem cl1_at {m b : Int} {d : Int → Int} (hK : ∀ a b, 0 ≤ K a b) (hd : Bx1 d) : cl1 K m d b b ≤ d m + K m b := by
  have h1 := hd m
  have h2 := hd b
  have h3 := hK m b
  unfold cl1 upd1 mn
  by_cases hc : d m < 99999 ∧ K m b < 99999
  · rw [if_pos hc, if_pos rfl]
    by_cases h2 : d m + K m b < d b
    · rw [if_pos h2]; exact Int.le_refl _
    · rw [if_neg h2]; omega
  · rw [if_neg hc]; omega
theorem clN_out {m y : Int} : ∀ (l : List Int) (d : Int → Int), y ∉ l → clN K m l d y = d y
  | [], d, _ => rfl
  | b :: l, d, h => by
    show clN K m l (cl1 K m d b) y = d y
    rw [clN_out l _ (fun h2 => h (by simp [h2])), cl1_out (fun e => h (by simp [e]))]
theorem clN_le {m y : Int} : ∀ (l : List Int) (d : Int → Int), clN K m l d y ≤ d y
  | [], d => Int.le_refl _
  | b :: l, d => Int.le_trans (clN_le l (cl1 K m d b)) (cl1_le y)
theorem clN_at {m b : Int} (hK : ∀ a b, 0 ≤ K a b) : ∀ (l : List Int) (d : Int → Int), Bx1 d → m ∉ l → b ∈ l → clN K m l d b ≤ d m + K m b
  | [], d, _, _, h => by cases h
  | c :: l, d, hd, hm, h => by
    show clN K m l (cl1 K m d c) b ≤ d m + K m b
    rcases List.mem_cons.1 h with rfl | h
    · exact Int.le_trans (clN_le l _) (cl1_at hK hd)
    · have := clN_at (m := m) (b := b) hK l (cl1 K m d c) (cl1_box hK hd m c) (fun h2 => hm (List.mem_cons_of_mem _ h2)) h
      rwa [cl1_out (fun e => hm (by rw [e]; exact List.mem_cons_self ..))] at this
theorem clAll_out {y : Int} : ∀ (l : List Int) (d : Int → Int), y ∉ l → clAll K l d y = d y
  | [], d, _ => rfl
  | m :: l, d, h => by
    show clAll K l (clN K m l d) y = d y
    rw [clAll_out l _ (fun h2 => h (by simp [h2])), clN_out l d (fun h2 => h (by simp [h2]))]
theorem clAll_le {y : Int} : ∀ (l : List Int) (d : Int → Int), clAll K l d y ≤ d y
  | [], d => Int.le_refl _
  | m :: l, d => Int.le_trans (clAll_le l (clN K m l d)) (clN_le l d)
theorem clAll_tight (hK : ∀ a b, 0 ≤ K a b) : ∀ (l : List Int), l.Nodup → ∀ (d : Int → Int), Bx1 d → ∀ (pre later : List Int) (m : Int), l = pre ++ m :: later → ∀ b ∈ later, clAll K l d b ≤ clAll K l d m + K m b
  | [], _, d, _, pre, later, m, e, b, hb => by simp at e
  | x :: l, hn, d, hd, pre, later, m, e, b, hb => by
    have hn2 := List.nodup_cons.1 hn
    cases pre with
    | nil =>
      obtain ⟨rfl, rfl⟩ := List.cons.inj e
      show clAll K l (clN K x l d) b ≤ clAll K l (clN K x l d) x + K x b
      rw [clAll_out l _ hn2.1, clN_out l d hn2.1]
      exact Int.le_trans (clAll_le l _) (clN_at hK l d hd hn2.1 hb)
    | cons p pre =>
      exact clAll_tight hK l hn2.2 (clN K x l d) (foldC_box hK l hd) pre later m (List.cons.inj e).2 b hb
/-- no way up is cheaper -/
theorem climb_le (hK : ∀ a b, 0 ≤ K a b) {l : List Int} (hn : l.Nodup) {s y c : Int} (w : UpP l K s y c) : clAll K l (at0 s) y ≤ c := by
  induction w with
  | nil =>
    have := clAll_le (K := K) (y := s) l (at0 s)
    have e : at0 s s = 0 := by unfold at0 upd1; rw [if_pos rfl]
    omega
  | snoc w h ih =>
    obtain ⟨p, q, e, hq⟩ := h
    have := clAll_tight hK l hn (at0 s) (at0_box s) p q _ e _ hq
    omega
/-- what is told is what some way up costs -/
theorem climb_real {l0 : List Int} {s : Int} : ∀ (l : List Int) (d : Int → Int), (∃ p, l0 = p ++ l) → (∀ y, d y = 99999 ∨ UpP l0 K s y (d y)) → ∀ y, clAll K l d y = 99999 ∨ UpP l0 K s y (clAll K l d y)
  | [], d, _, h => h
  | m :: l, d, ⟨p, e⟩, h => by
    refine climb_real l (clN K m l d) ⟨p ++ [m], by rw [e, List.append_assoc]; rfl⟩ ?_
    have : ∀ (q : List Int) (d : Int → Int), (∀ b ∈ q, b ∈ l) → (∀ y, d y = 99999 ∨ UpP l0 K s y (d y)) → ∀ y, clN K m q d y = 99999 ∨ UpP l0 K s y (clN K m q d y) := by
      intro q
      induction q with
      | nil => exact fun d _ h => h
      | cons b q ih =>
        intro d hq h
        refine ih (cl1 K m d b) (fun c hc => hq c (by simp [hc])) (fun y => ?_)
        by_cases hy : y = b
        · subst hy
          by_cases hc : d m < 99999 ∧ K m y < 99999
          · rw [cl1_yes hc]
            unfold upd1 mn
            rw [if_pos rfl]
            by_cases h2 : d m + K m y < d y
            · rw [if_pos h2]
              rcases h m with h3 | h3
              · omega
              · exact .inr (h3.snoc ⟨p, l, e, hq y (by simp)⟩)
            · rw [if_neg h2]; exact h y
          · rw [cl1_no hc]; exact h y
        · rw [cl1_out hy]; exact h y
    exact this l d (fun _ hb => hb) h
theorem climb_path (l : List Int) (s y : Int) : clAll K l (at0 s) y = 99999 ∨ UpP l K s y (clAll K l (at0 s) y) :=
  climb_real l (at0 s) ⟨[], rfl⟩ (fun z => by
    by_cases h : z = s
    · subst h
      have e : at0 z z = 0 := by unfold at0 upd1; rw [if_pos rfl]
      rw [e]; exact .inr .nil
    · exact .inl (by unfold at0 upd1; rw [if_neg h])) y
end
section
variable {l : List Int} {C : Int → Int → Int}
theorem DnP.front {m y z c : Int} (w : DnP l C m y c) (h : Bf l m z) : DnP l C z y (C z m + c) := by
  induction w with
  | nil => have := (DnP.nil (l := l) (C := C) (m := z)).snoc h; rwa [Int.zero_add, ← Int.add_zero (C z m)] at this
  | snoc w h2 ih => have := ih.snoc h2; rwa [Int.add_assoc] at this
theorem up_dn {b m c : Int} (w : UpP l (trp C) b m c) : DnP l C m b c := by
  induction w with
  | nil => exact .nil
  | snoc w h ih => rename_i y z c; have := ih.front h; rwa [Int.add_comm] at this
theorem UpP.front {K : Int → Int → Int} {s y z c : Int} (w : UpP l K s y c) (h : Bf l z s) : UpP l K z y (K z s + c) := by
  induction w with
  | nil => have := (UpP.nil (l := l) (C := K) (s := z)).snoc h; rwa [Int.zero_add, ← Int.add_zero (K z s)] at this
  | snoc w h2 ih => have := ih.snoc h2; rwa [Int.add_assoc] at this
theorem dn_up {m b c : Int} (w : DnP l C m b c) : UpP l (trp C) b m c := by
  induction w with
  | nil => exact .nil
  | snoc w h ih => rename_i y z c; have := ih.front h; rwa [Int.add_comm] at this
theorem UpP.mem {K : Int → Int → Int} {s y c : Int} (hs : s ∈ l) (w : UpP l K s y c) : y ∈ l := by
  induction w with
  | nil => exact hs
  | snoc w h ih => exact h.mem.2
end
theorem meet_le {u v : Int → Int} : ∀ (l : List Int) (p : Int × Int), (l.foldl (mt1 u v) p).1 ≤ p.1 ∧ ∀ m ∈ l, u m < 99999 → v m < 99999 → (l.foldl (mt1 u v) p).1 ≤ u m + v m
  | [], p => ⟨Int.le_refl _, fun m h => by cases h⟩
  | x :: l, p => by
    obtain ⟨h1, h2⟩ := meet_le (u := u) (v := v) l (mt1 u v p x)
    have h3 : (mt1 u v p x).1 ≤ p.1 ∧ (u x < 99999 → v x < 99999 → (mt1 u v p x).1 ≤ u x + v x) := by
      by_cases hc : u x < 99999 ∧ v x < 99999 ∧ u x + v x < p.1
      · rw [mt1_yes hc]; exact ⟨by show u x + v x ≤ p.1; omega, fun _ _ => Int.le_refl _⟩
      · rw [mt1_no hc]; exact ⟨Int.le_refl _, fun a b => by
          have : ¬ u x + v x < p.1 := fun h => hc ⟨a, b, h⟩
          omega⟩
    refine ⟨Int.le_trans h1 h3.1, fun m hm a b => ?_⟩
    rcases List.mem_cons.1 hm with rfl | hm
    · exact Int.le_trans h1 (h3.2 a b)
    · exact h2 m hm a b
theorem meet_real {u v : Int → Int} {P : Int → Prop} : ∀ (l : List Int) (p : Int × Int), (∀ m ∈ l, u m < 99999 → v m < 99999 → P (u m + v m)) → P p.1 → P (l.foldl (mt1 u v) p).1
  | [], p, _, h => h
  | x :: l, p, hm, h => by
    refine meet_real l (mt1 u v p x) (fun m h2 => hm m (by simp [h2])) ?_
    by_cases hc : u x < 99999 ∧ v x < 99999 ∧ u x + v x < p.1
    · rw [mt1_yes hc]; exact hm x (by simp) hc.1 hc.2.1
    · rw [mt1_no hc]; exact h
/-- by whatever order: what it costs to go up from both ends is the distance -/
theorem near_dist {nodes : Int} {l : List S61} {DS : Int → List Int} (h : netOkB nodes l = true) (hD : ∀ a : Int, InN nodes a → IsDist nodes.toNat l a (DS a)) {o : List Int} (ho : Ord o nodes) {a b : Int} (ha : InN nodes a) (hb : InN nodes b) : (near (rkAll o (arcS l)).1 o a b).1 = rd (DS a) b := by
  obtain ⟨b1, b2, _⟩ := rk_bounds h
  have hge : ∀ x y, InN nodes x → InN nodes y → rd (DS x) y ≤ (rkAll o (arcS l)).1 x y := fun x y hx hy => rk_ge h hD ho x y hx hy
  have hbx : ∀ a b, 0 ≤ (rkAll o (arcS l)).1 a b ∧ (rkAll o (arcS l)).1 a b ≤ 99999 := fun a b => rkAll_box o (arcG_box h) a b
  have hle : ∀ x ∈ l, x.f0 ≠ x.f1 ∧ (rkAll o (arcS l)).1 x.f0 x.f1 ≤ x.f2 ∧ x.f0 ∈ o ∧ x.f1 ∈ o := fun x hx => by
    obtain ⟨c0, c1, c2, c3, c4, _, _⟩ := rk_arc h hx
    exact ⟨c4, rk_le_arc hx, ord_mem ho ⟨c0, c1⟩, ord_mem ho ⟨c2, c3⟩⟩
  have hbe := rkAll_bends ho.2.1 (arcG_box h)
  have htri := ds_tri h hD
  have hself : ∀ x, InN nodes x → rd (DS x) x ≤ 0 := fun x hx => (hD x hx).least x 0 Walk.nil
  have q := (hD a ha).leFar (y := b) hb.1 (by have := hb.2; omega)
  have hin : ∀ x ∈ o, InN nodes x := fun x hx => ho.2.2 x hx
  have hao := ord_mem ho ha
  have hbo := ord_mem ho hb
  generalize (rkAll o (arcS l)).1 = C at hge hbx hle hbe ⊢
  have hC0 : ∀ a b, 0 ≤ C a b := fun a b => (hbx a b).1
  have hT0 : ∀ a b, 0 ≤ trp C a b := fun a b => (hbx b a).1
  have hgeC : ∀ x y, InN nodes x → InN nodes y → rd (DS x) y ≤ C x y := fun x y hx hy => hge x y hx hy
  apply Int.le_antisymm
  · by_cases hf : rd (DS a) b = 99999
    · rw [hf]; exact (meet_le o (99999, -1)).1
    · obtain ⟨k, w⟩ := (hD a ha).walk b hb.1 (by have := hb.2; omega) hf
      obtain ⟨_, m, u, e, w1, w2, w3⟩ := walk_bends hbe hC0 hle hao w
      have hm := w1.mem hao
      have u1 := climb_le hC0 ho.2.1 w1
      have u2 := climb_le hT0 ho.2.1 (dn_up w2)
      have c1 := clAll_box hC0 o (at0_box a) m
      have c2 := clAll_box hT0 o (at0_box b) m
      have := (meet_le (u := clAll C o (at0 a)) (v := clAll (trp C) o (at0 b)) o (99999, -1)).2 m hm (by omega) (by omega)
      exact Int.le_trans this (by omega)
  · refine meet_real (P := fun x => rd (DS a) b ≤ x) o (99999, -1) (fun m hm v1 v2 => ?_) q.2.1
    rcases climb_path (K := C) o a m with h1 | h1
    · omega
    rcases climb_path (K := trp C) o b m with h2 | h2
    · omega
    have g1 := up_ge (R := InN nodes) (d := fun a b => rd (DS a) b) htri hgeC hin ha (hself a ha) h1
    have g2 := dn_ge (R := InN nodes) (d := fun a b => rd (DS a) b) htri hgeC hin (hin m hm) (hself m (hin m hm)) (up_dn h2)
    have g3 := htri a m b ha (hin m hm) hb
    have g1' := g1.2
    have g2' := g2.2
    show rd (DS a) b ≤ clAll C o (at0 a) m + clAll (trp C) o (at0 b) m
    change rd (DS a) m ≤ clAll C o (at0 a) m at g1'
    change rd (DS m) b ≤ clAll (trp C) o (at0 b) m at g2'
    omega
end Go.Proofs.Ytdlaaccnaokdnaa.M
