/- Plain law of the search with marks: the node that is taken has its least cost. -/
import Derived.Test.YtjmpngfgfddpaaaMRev
set_option linter.unusedVariables false
namespace Go.Proofs.Ytjmpngfgfddpaaa.M
open Go.RowKit Go.Proofs.Ytjmpngfgfddpaaa.P Go.Proofs.YtjmpngfgfddpaaaV.PrintWords Go.Proofs.YtjmpngfgfddpaaaV.PrintMore

/-- what is known of how far it is: never more than over an arc -/
structure Heur (n : Nat) (l : List S33) (t : Int) (B : Int → Int) : Prop where
  val : ∀ y : Int, 0 ≤ y → y < n → B y = 99999 ∨ (0 ≤ B y ∧ B y ≤ 49999)
  arc : ∀ a ∈ l, B a.f1 ≠ 99999 → B a.f0 ≠ 99999 ∧ B a.f0 ≤ a.f2 + B a.f1
  zero : B t = 0
/-- one arc from the node at -/
def stepR (at_ : Int) (d : List Int) (a : S33) : List Int := if a.f0 = at_ then (if rd d at_ + a.f2 < rd d a.f1 then d.set a.f1.toNat (rd d at_ + a.f2) else d) else d
def relaxR (at_ : Int) (l : List S33) (d : List Int) : List Int := l.foldl (stepR at_) d
theorem stepR_prop {n : Nat} {l : List S33} (hg : Good n l) {d : List Int} (hd : d.length = n) {v : Int} (hv : 0 ≤ v ∧ v < n) {a : S33} (ha : a ∈ l) :
    (stepR v d a).length = n ∧ rd (stepR v d a) v = rd d v ∧ (∀ y : Int, 0 ≤ y → rd (stepR v d a) y ≤ rd d y ∧ (rd (stepR v d a) y = rd d y ∨ (a.f0 = v ∧ a.f1 = y ∧ rd (stepR v d a) y = rd d v + a.f2))) ∧ (a.f0 = v → rd (stepR v d a) a.f1 ≤ rd d v + a.f2) := by
  obtain ⟨h0, h1, h2, h3, h4, h5⟩ := hg a ha
  unfold stepR
  by_cases hf : a.f0 = v
  · rw [if_pos hf]
    by_cases hc : rd d v + a.f2 < rd d a.f1
    · rw [if_pos hc]
      have hr : ∀ y : Int, 0 ≤ y → rd (d.set a.f1.toNat (rd d v + a.f2)) y = if y = a.f1 then rd d v + a.f2 else rd d y := fun y hy => rd_set d a.f1 h2 (by omega) _ y hy
      refine ⟨by rw [List.length_set]; exact hd, ?_, fun y hy => ?_, fun _ => ?_⟩
      · rw [hr v hv.1]
        split
        · rename_i e
          subst e
          omega
        · rfl
      · rw [hr y hy]
        by_cases e : y = a.f1
        · rw [if_pos e]
          subst e
          exact ⟨by omega, .inr ⟨hf, rfl, rfl⟩⟩
        · rw [if_neg e]
          exact ⟨Int.le_refl _, .inl rfl⟩
      · rw [hr _ h2, if_pos rfl]
        exact Int.le_refl _
    · rw [if_neg hc]
      exact ⟨hd, rfl, fun y _ => ⟨Int.le_refl _, .inl rfl⟩, fun _ => by omega⟩
  · rw [if_neg hf]
    exact ⟨hd, rfl, fun y _ => ⟨Int.le_refl _, .inl rfl⟩, fun h => absurd h hf⟩
theorem relaxR_prop {n : Nat} {l : List S33} (hg : Good n l) {v : Int} (hv : 0 ≤ v ∧ v < n) : ∀ (m : List S33), (∀ a ∈ m, a ∈ l) → ∀ {d : List Int}, d.length = n →
    (relaxR v m d).length = n ∧ rd (relaxR v m d) v = rd d v ∧ (∀ y : Int, 0 ≤ y → rd (relaxR v m d) y ≤ rd d y ∧ (rd (relaxR v m d) y = rd d y ∨ ∃ a ∈ m, a.f0 = v ∧ a.f1 = y ∧ rd (relaxR v m d) y = rd d v + a.f2)) ∧ (∀ a ∈ m, a.f0 = v → rd (relaxR v m d) a.f1 ≤ rd d v + a.f2)
  | [], _, d, hd => ⟨hd, rfl, fun y _ => ⟨Int.le_refl _, .inl rfl⟩, fun a ha => by cases ha⟩
  | b :: m, hm, d, hd => by
    obtain ⟨s1, s2, s3, s4⟩ := stepR_prop hg hd hv (hm b (by simp))
    obtain ⟨t1, t2, t3, t4⟩ := relaxR_prop hg hv m (fun a ha => hm a (by simp [ha])) s1
    have e : relaxR v (b :: m) d = relaxR v m (stepR v d b) := rfl
    rw [e]
    refine ⟨t1, t2.trans s2, fun y hy => ⟨Int.le_trans (t3 y hy).1 (s3 y hy).1, ?_⟩, fun a ha hf => ?_⟩
    · rcases (t3 y hy).2 with e1 | ⟨a, ha, e1, e2, e3⟩
      · rcases (s3 y hy).2 with e2 | ⟨e2, e3, e4⟩
        · exact .inl (e1.trans e2)
        · exact .inr ⟨b, by simp, e2, e3, e1.trans e4⟩
      · exact .inr ⟨a, by simp [ha], e1, e2, by rw [e3, s2]⟩
    · rcases List.mem_cons.1 ha with rfl | ha
      · exact Int.le_trans (t3 _ (hg _ (hm _ (by simp))).2.2.1).1 (s4 hf)
      · have := t4 a ha hf
        rw [s2] at this
        exact this
/-- what stays true of the search -/
structure Seek (n : Nat) (l : List S33) (s : Int) (D : List Int) (B : Int → Int) (d : List Int) (dn : Int → Bool) : Prop where
  len : d.length = n
  val : ∀ y : Int, 0 ≤ y → y < n → rd d y = 99999 ∨ (0 ≤ rd d y ∧ rd d y ≤ 792 ∧ Walk l s y (rd d y))
  src : rd d s = 0
  fin : ∀ u : Int, 0 ≤ u → u < n → dn u = true → rd d u = rd D u ∧ rd D u ≠ 99999 ∧ ∀ a ∈ l, a.f0 = u → rd d a.f1 ≤ rd d u + a.f2
theorem Seek.front {n : Nat} {l : List S33} (hg : Good n l) {s t : Int} (hs : 0 ≤ s ∧ s < n) {D : List Int} {B : Int → Int} (hB : Heur n l t B) {d : List Int} {dn : Int → Bool} (h : Seek n l s D B d dn) {k : Nat} {y c : Int} (w : WalkN l s k y c) :
    B y ≠ 99999 → (dn y = true ∧ rd d y ≤ c) ∨ ∃ x : Int, 0 ≤ x ∧ x < n ∧ dn x = false ∧ B x ≠ 99999 ∧ rd d x + B x ≤ c + B y := by
  induction w with
  | nil =>
    intro hb
    cases hdn : dn s with
    | true => exact .inl ⟨rfl, by rw [h.src]; exact Int.le_refl _⟩
    | false => exact .inr ⟨s, hs.1, hs.2, hdn, hb, by rw [h.src]; exact Int.le_refl _⟩
  | @snoc a k c w ha ih =>
    intro hb
    obtain ⟨h0, h1, h2, h3, h4, h5⟩ := hg a ha
    obtain ⟨b0, b1⟩ := hB.arc a ha hb
    rcases ih b0 with ⟨e1, e2⟩ | ⟨x, x0, x1, x2, x3, x4⟩
    · have := (h.fin a.f0 h0 h1 e1).2.2 a ha rfl
      cases hdn : dn a.f1 with
      | true => exact .inl ⟨rfl, by omega⟩
      | false => exact .inr ⟨a.f1, h2, h3, hdn, hb, by omega⟩
    · exact .inr ⟨x, x0, x1, x2, x3, by omega⟩
/-- the node that is taken has its least cost -/
theorem Seek.least {n : Nat} {l : List S33} (hg : Good n l) {s t : Int} (hs : 0 ≤ s ∧ s < n) {D : List Int} (hD : IsDist n l s D) {B : Int → Int} (hB : Heur n l t B) {d : List Int} {dn : Int → Bool} (h : Seek n l s D B d dn) {v : Int} (hv : 0 ≤ v ∧ v < n) (h1 : dn v = false) (h2 : rd d v ≠ 99999) (h3 : B v ≠ 99999)
    (hm : ∀ x : Int, 0 ≤ x → x < n → dn x = false → rd d x ≠ 99999 → B x ≠ 99999 → rd d v + B v ≤ rd d x + B x) : rd d v = rd D v ∧ rd D v ≠ 99999 := by
  have hFar : Far = (99999 : Int) := rfl
  rcases h.val v hv.1 hv.2 with e | ⟨e1, e2, w⟩
  · exact absurd e h2
  have hl := hD.le hv.1 hv.2 w (by omega)
  obtain ⟨k, w2⟩ := hD.walk v hv.1 hv.2 hl.1
  rcases h.front hg hs hB w2 h3 with ⟨e, _⟩ | ⟨x, x0, x1, x2, x3, x4⟩
  · rw [h1] at e; cases e
  · have bv := hB.val v hv.1 hv.2
    have bx := hB.val x x0 x1
    have := hm x x0 x1 x2 (by omega) x3
    exact ⟨by omega, by omega⟩
/-- none is left: no walk leads there -/
theorem Seek.none {n : Nat} {l : List S33} (hg : Good n l) {s t : Int} (hs : 0 ≤ s ∧ s < n) (ht : 0 ≤ t ∧ t < n) {D : List Int} (hD : IsDist n l s D) {B : Int → Int} (hB : Heur n l t B) {d : List Int} {dn : Int → Bool} (h : Seek n l s D B d dn) (h1 : dn t = false)
    (hm : ∀ x : Int, 0 ≤ x → x < n → dn x = false → rd d x ≠ 99999 → B x ≠ 99999 → False) : rd D t = 99999 := by
  have hFar : Far = (99999 : Int) := rfl
  rcases Int.lt_or_le (rd D t) 99999 with e | e
  · exfalso
    obtain ⟨k, w⟩ := hD.walk t ht.1 ht.2 (by omega)
    have b := hD.leFar ht.1 ht.2
    rcases h.front hg hs hB w (by rw [hB.zero]; decide) with ⟨e, _⟩ | ⟨x, x0, x1, x2, x3, x4⟩
    · rw [h1] at e; cases e
    · rw [hB.zero] at x4
      have bx := hB.val x x0 x1
      exact hm x x0 x1 x2 (by omega) x3
  · have b := hD.leFar ht.1 ht.2
    omega
/-- a node taken, its arcs relaxed -/
theorem Seek.next {n : Nat} {l : List S33} (hg : Good n l) {s : Int} {D : List Int} (hD : IsDist n l s D) {B : Int → Int} {d : List Int} {dn : Int → Bool} (h : Seek n l s D B d dn) {v : Int} (hv : 0 ≤ v ∧ v < n) (hs : 0 ≤ s ∧ s < n) (h1 : rd d v = rd D v) (h2 : rd D v ≠ 99999) {dn' : Int → Bool} (hdn : ∀ u : Int, 0 ≤ u → u < n → dn' u = true → u = v ∨ dn u = true) :
    Seek n l s D B (relaxR v l d) dn' := by
  have hFar : Far = (99999 : Int) := rfl
  obtain ⟨t1, t2, t3, t4⟩ := relaxR_prop hg hv l (fun a ha => ha) h.len
  have bv := hD.leFar hv.1 hv.2
  have hval : ∀ y : Int, 0 ≤ y → y < n → rd (relaxR v l d) y = 99999 ∨ (0 ≤ rd (relaxR v l d) y ∧ rd (relaxR v l d) y ≤ 792 ∧ Walk l s y (rd (relaxR v l d) y)) := by
    intro y hy hyn
    rcases (t3 y hy).2 with e | ⟨a, ha, e1, e2, e3⟩
    · rw [e]
      exact h.val y hy hyn
    · obtain ⟨_, _, _, _, h4, h5⟩ := hg a ha
      right
      rw [e3]
      refine ⟨by omega, by omega, ?_⟩
      rcases h.val v hv.1 hv.2 with e | ⟨_, _, w⟩
      · omega
      · subst e2
        have := Walk.snoc (a := a) (s := s) (c := rd d v) (by rw [e1]; exact w) ha
        exact this
  refine ⟨t1, hval, ?_, fun u hu hun hdu => ?_⟩
  · have b := (t3 s hs.1).1
    rw [h.src] at b
    rcases hval s hs.1 hs.2 with e | ⟨e, _⟩ <;> omega
  · rcases hdn u hu hun hdu with e | e
    · subst e
      rw [t2]
      exact ⟨h1, h2, t4⟩
    · obtain ⟨f1, f2, f3⟩ := h.fin u hu hun e
      have hle := (t3 u hu).1
      have : rd (relaxR v l d) u = rd d u := by
        rcases hval u hu hun with e1 | ⟨_, e1, w⟩
        · have := hD.leFar hu hun
          omega
        · have := hD.least u _ w
          omega
      rw [this]
      refine ⟨f1, f2, fun a ha hf => ?_⟩
      have b1 := f3 a ha hf
      have b2 := (t3 a.f1 (hg a ha).2.2.1).1
      omega
end Go.Proofs.Ytjmpngfgfddpaaa.M
