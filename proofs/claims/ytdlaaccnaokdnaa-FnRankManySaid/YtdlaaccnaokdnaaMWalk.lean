/- Plain law of nets with costs: walks from a node; what relaxing does. -/
import Derived.Test.YtdlaaccnaokdnaaMNetOk
set_option linter.unusedVariables false
namespace Go.Proofs.Ytdlaaccnaokdnaa.M
open Go.RowKit Go.Proofs.Ytdlaaccnaokdnaa.P Go.Proofs.YtdlaaccnaokdnaaV.PrintWords Go.Proofs.YtdlaaccnaokdnaaV.PrintMore

abbrev Far : Int := 99999
/-- a walk from s, of k arcs, to y, and what it costs -/
inductive WalkN (l : List S61) (s : Int) : Nat → Int → Int → Prop
  | nil : WalkN l s 0 s 0
  | snoc {a : S61} {k : Nat} {c : Int} (w : WalkN l s k a.f0 c) (h : a ∈ l) : WalkN l s (k + 1) a.f1 (c + a.f2)
def Walk (l : List S61) (s y c : Int) : Prop := ∃ k, WalkN l s k y c
/-- arcs lead between nodes 0 .. n-1, for 0 to 99 -/
def Good (n : Nat) (l : List S61) : Prop := ∀ a ∈ l, 0 ≤ a.f0 ∧ a.f0 < n ∧ 0 ≤ a.f1 ∧ a.f1 < n ∧ 0 ≤ a.f2 ∧ a.f2 ≤ 99
theorem WalkN.cost {n : Nat} {l : List S61} (hg : Good n l) {s : Int} {k : Nat} {y c : Int} (w : WalkN l s k y c) : 0 ≤ c ∧ c ≤ 99 * k := by
  induction w with
  | nil => exact ⟨Int.le_refl _, by omega⟩
  | snoc w h ih =>
    obtain ⟨_, _, _, _, h0, h1⟩ := hg _ h
    exact ⟨by omega, by omega⟩
theorem WalkN.node {n : Nat} {l : List S61} (hg : Good n l) {s : Int} (hs : 0 ≤ s ∧ s < n) {k : Nat} {y c : Int} (w : WalkN l s k y c) : 0 ≤ y ∧ y < n := by
  induction w with
  | nil => exact hs
  | snoc w h ih =>
    obtain ⟨_, _, h0, h1, _⟩ := hg _ h
    exact ⟨h0, h1⟩
theorem netOk_good {nodes : Int} {l : List S61} (h : netOkB nodes l = true) : Good nodes.toNat l := by
  simp only [netOkB, Bool.and_eq_true, Bool.not_eq_true', decide_eq_true_eq, List.any_eq_false] at h
  obtain ⟨⟨⟨h1, h2⟩, h3⟩, h4⟩ := h
  intro x hx
  have hb := Bool.eq_false_iff.2 (h4 x hx)
  simp only [badArc, inB, costB, loadB, Bool.or_eq_false_iff, Bool.not_eq_false', Bool.and_eq_true, decide_eq_true_eq, beq_eq_false_iff_ne] at hb
  rw [w64 (by omega)] at hb
  obtain ⟨⟨⟨⟨⟨⟨a, b⟩, c, d⟩, e⟩, f⟩, g⟩, i⟩ := hb
  exact ⟨a, by omega, c, by omega, f.1, f.2⟩
/-- what is known of distances from s: D's numbers are least costs, Far where no walk leads -/
structure IsDist (n : Nat) (l : List S61) (s : Int) (D : List Int) : Prop where
  len : D.length = n
  least : ∀ y c, Walk l s y c → rd D y ≤ c
  walk : ∀ y : Int, 0 ≤ y → y < n → rd D y ≠ Far → Walk l s y (rd D y)
  few : ∀ y : Int, 0 ≤ y → y < n → rd D y = Far ∨ (0 ≤ rd D y ∧ rd D y ≤ 693)
  short : ∀ y : Int, 0 ≤ y → y < n → rd D y ≠ Far → ∃ k, k < n ∧ WalkN l s k y (rd D y)

/-! ### the specification's rounds -/
/-- one arc relaxed -/
def stepS (d : List Int) (a : S61) : List Int := if rd d a.f0 < 99999 then (if rd d a.f0 + a.f2 < rd d a.f1 then d.set a.f1.toNat (rd d a.f0 + a.f2) else d) else d
def passS (l : List S61) (d : List Int) : List Int := l.foldl stepS d
theorem rd_set (d : List Int) (i : Int) (h0 : 0 ≤ i) (h1 : i < d.length) (x j : Int) (hj : 0 ≤ j) : rd (d.set i.toNat x) j = if j = i then x else rd d j := by
  obtain ⟨i, rfl⟩ := Int.eq_ofNat_of_zero_le h0
  obtain ⟨j, rfl⟩ := Int.eq_ofNat_of_zero_le hj
  simp only [rd, Int.toNat_natCast, List.getD_eq_getElem?_getD, List.getElem?_set]
  by_cases h : i = j
  · subst h
    rw [if_pos rfl, if_pos (by omega), if_pos rfl]
    rfl
  · rw [if_neg h, if_neg (by omega)]
theorem stepS_len (d : List Int) (a : S61) : (stepS d a).length = d.length := by
  unfold stepS
  split
  · split
    · rw [List.length_set]
    · rfl
  · rfl
/-- what stays true of the numbers: each is Far or a walk's cost -/
structure SoundS (n : Nat) (l : List S61) (s : Int) (d : List Int) : Prop where
  len : d.length = n
  val : ∀ y : Int, 0 ≤ y → y < n → rd d y = Far ∨ (rd d y < Far ∧ Walk l s y (rd d y))
theorem stepS_sound {n : Nat} {l : List S61} {s : Int} (hg : Good n l) {d : List Int} (h : SoundS n l s d) {a : S61} (ha : a ∈ l) :
    SoundS n l s (stepS d a) ∧ (∀ y : Int, 0 ≤ y → rd (stepS d a) y ≤ rd d y) ∧ (rd d a.f0 < Far → rd (stepS d a) a.f1 ≤ rd d a.f0 + a.f2) := by
  obtain ⟨h0, h1, h2, h3, h4, h5⟩ := hg a ha
  have hl := h.len
  unfold stepS
  by_cases hf : rd d a.f0 < 99999
  · rw [if_pos hf]
    by_cases hc : rd d a.f0 + a.f2 < rd d a.f1
    · rw [if_pos hc]
      have hr : ∀ y : Int, 0 ≤ y → rd (d.set a.f1.toNat (rd d a.f0 + a.f2)) y = if y = a.f1 then rd d a.f0 + a.f2 else rd d y := fun y hy => rd_set d a.f1 h2 (by omega) _ y hy
      refine ⟨⟨by rw [List.length_set]; exact hl, fun y hy hyn => ?_⟩, fun y hy => ?_, fun _ => ?_⟩
      · rw [hr y hy]
        by_cases e : y = a.f1
        · subst e
          rw [if_pos rfl]
          refine .inr ⟨?_, ?_⟩
          · rcases h.val a.f1 h2 h3 with e1 | ⟨e1, _⟩ <;> omega
          · rcases h.val a.f0 h0 h1 with e1 | ⟨_, k, w⟩
            · rw [e1] at hf; exact absurd hf (by decide)
            · exact ⟨k + 1, WalkN.snoc w ha⟩
        · rw [if_neg e]
          exact h.val y hy hyn
      · rw [hr y hy]
        split
        · rename_i e
          subst e
          omega
        · exact Int.le_refl _
      · rw [hr _ h2, if_pos rfl]
        exact Int.le_refl _
    · rw [if_neg hc]
      exact ⟨h, fun _ _ => Int.le_refl _, fun _ => by omega⟩
  · rw [if_neg hf]
    exact ⟨h, fun _ _ => Int.le_refl _, fun h => absurd h hf⟩
/-- a whole round -/
theorem passS_sound {n : Nat} {l : List S61} {s : Int} (hg : Good n l) : ∀ (m : List S61), (∀ a ∈ m, a ∈ l) → ∀ {d : List Int}, SoundS n l s d →
    SoundS n l s (passS m d) ∧ (∀ y : Int, 0 ≤ y → rd (passS m d) y ≤ rd d y) ∧ (∀ a ∈ m, rd d a.f0 < Far → rd (passS m d) a.f1 ≤ rd d a.f0 + a.f2)
  | [], _, d, h => ⟨h, fun _ _ => Int.le_refl _, fun a ha => by cases ha⟩
  | b :: m, hm, d, h => by
    obtain ⟨s1, s2, s3⟩ := stepS_sound hg h (hm b (by simp))
    obtain ⟨t1, t2, t3⟩ := passS_sound hg m (fun a ha => hm a (by simp [ha])) s1
    refine ⟨t1, fun y hy => Int.le_trans (t2 y hy) (s2 y hy), fun a ha hf => ?_⟩
    rcases List.mem_cons.1 ha with rfl | ha
    · exact Int.le_trans (t2 _ (hg _ (hm _ (by simp))).2.2.1) (s3 hf)
    · have h0 := (hg a (hm a (by simp [ha]))).1
      have e1 := t3 a ha (Int.lt_of_le_of_lt (s2 _ h0) hf)
      have e2 := s2 _ h0
      show rd (passS m (stepS d b)) a.f1 ≤ _
      omega
/-- after i rounds no walk of at most i arcs is cheaper -/
def passesS (l : List S61) : Nat → List Int → List Int
  | 0, d => d
  | i + 1, d => passS l (passesS l i d)
theorem passesS_least {n : Nat} {l : List S61} {s : Int} (hg : Good n l) (hs : 0 ≤ s ∧ s < n) {d : List Int} (h : SoundS n l s d) (h0 : rd d s ≤ 0) :
    ∀ i, i ≤ 8 → SoundS n l s (passesS l i d) ∧ ∀ k y c, k ≤ i → WalkN l s k y c → rd (passesS l i d) y ≤ c
  | 0, _ => ⟨h, fun k y c hk w => by
      obtain rfl : k = 0 := by omega
      cases w
      exact h0⟩
  | i + 1, hi => by
    obtain ⟨s1, s2⟩ := passesS_least hg hs h h0 i (by omega)
    obtain ⟨t1, t2, t3⟩ := passS_sound hg l (fun a ha => ha) s1
    refine ⟨t1, fun k y c hk w => ?_⟩
    have hy := w.node hg hs
    by_cases hki : k ≤ i
    · exact Int.le_trans (t2 y hy.1) (s2 k y c hki w)
    · cases w with
      | nil => omega
      | @snoc a k c w ha =>
        have hle := s2 k a.f0 c (by omega) w
        have hc := w.cost hg
        have := t3 a ha (by show _ < (99999 : Int); omega)
        show rd (passS l (passesS l i d)) a.f1 ≤ _
        omega
end Go.Proofs.Ytdlaaccnaokdnaa.M
