/- Plain law: walks of the net turned round, walks put together, and lists of least costs compared. -/
import Derived.Test.YtdlaaccnaokdnaaMDist
set_option linter.unusedVariables false
namespace Go.Proofs.Ytdlaaccnaokdnaa.M
open Go.RowKit Go.Proofs.Ytdlaaccnaokdnaa.P Go.Proofs.YtdlaaccnaokdnaaV.PrintWords Go.Proofs.YtdlaaccnaokdnaaV.PrintMore

theorem WalkN.cons {l : List S61} {a : S61} (h : a ∈ l) {k : Nat} {y c : Int} (w : WalkN l a.f1 k y c) : WalkN l a.f0 (k + 1) y (a.f2 + c) := by
  generalize hs : a.f1 = s at w
  induction w with
  | nil =>
    subst hs
    have := WalkN.snoc (WalkN.nil (l := l) (s := a.f0)) h
    rw [Int.zero_add] at this
    rw [Int.add_zero]
    exact this
  | snoc w hb ih =>
    have := WalkN.snoc ih hb
    rw [Int.add_assoc] at this
    exact this
theorem WalkN.append {l : List S61} {s : Int} {k : Nat} {y c : Int} (w : WalkN l s k y c) {j : Nat} {z e : Int} (v : WalkN l y j z e) : WalkN l s (k + j) z (c + e) := by
  induction v with
  | nil =>
    rw [Int.add_zero]
    exact w
  | snoc v hb ih =>
    have := WalkN.snoc ih hb
    rw [Int.add_assoc] at this
    exact this
theorem Walk.append {l : List S61} {s y z c e : Int} (w : Walk l s y c) (v : Walk l y z e) : Walk l s z (c + e) := by
  obtain ⟨k, w⟩ := w
  obtain ⟨j, v⟩ := v
  exact ⟨k + j, w.append v⟩
theorem Walk.nil {l : List S61} {s : Int} : Walk l s s 0 := ⟨0, WalkN.nil⟩
theorem Walk.snoc {l : List S61} {s : Int} {a : S61} {c : Int} (w : Walk l s a.f0 c) (h : a ∈ l) : Walk l s a.f1 (c + a.f2) := by
  obtain ⟨k, w⟩ := w
  exact ⟨k + 1, w.snoc h⟩
theorem Walk.one {l : List S61} {a : S61} (h : a ∈ l) : Walk l a.f0 a.f1 a.f2 := by
  have := Walk.snoc (Walk.nil (l := l) (s := a.f0)) h
  rwa [Int.zero_add] at this
theorem Walk.mono {l m : List S61} (hlm : ∀ a ∈ l, a ∈ m) {s y c : Int} (w : Walk l s y c) : Walk m s y c := by
  obtain ⟨k, w⟩ := w
  induction w with
  | nil => exact Walk.nil
  | snoc w h ih => exact ih.snoc (hlm _ h)
theorem swap_swap (l : List S61) : (l.map swapA).map swapA = l := by
  induction l with
  | nil => rfl
  | cons a l ih => rw [List.map_cons, List.map_cons, ih]; rfl
theorem WalkN.swap {l : List S61} {s : Int} {k : Nat} {y c : Int} (w : WalkN l s k y c) : WalkN (l.map swapA) y k s c := by
  induction w with
  | nil => exact WalkN.nil
  | @snoc a k c w h ih =>
    have := WalkN.cons (a := swapA a) (List.mem_map_of_mem h) (show WalkN (l.map swapA) (swapA a).f1 k s c from ih)
    rw [Int.add_comm]
    exact this
theorem walk_swap {l : List S61} {s y c : Int} : Walk (l.map swapA) y s c ↔ Walk l s y c := by
  constructor
  · rintro ⟨k, w⟩
    have := w.swap
    rw [swap_swap] at this
    exact ⟨k, this⟩
  · rintro ⟨k, w⟩
    exact ⟨k, w.swap⟩
theorem good_swap {n : Nat} {l : List S61} (h : Good n l) : Good n (l.map swapA) := by
  intro a ha
  obtain ⟨b, hb, rfl⟩ := List.mem_map.1 ha
  obtain ⟨h0, h1, h2, h3, h4, h5⟩ := h b hb
  exact ⟨h2, h3, h0, h1, h4, h5⟩
theorem badArc_swap (nodes : Int) (a : S61) : badArc nodes (swapA a) = badArc nodes a := by
  unfold badArc swapA
  simp only
  rw [Bool.and_comm (inB nodes a.f1), show (a.f1 == a.f0) = (a.f0 == a.f1) from BEq.comm]
theorem netOk_swap (nodes : Int) (l : List S61) : netOkB nodes (l.map swapA) = netOkB nodes l := by
  unfold netOkB
  rw [List.length_map, List.any_map]
  congr 2
  congr 1
  funext a
  exact badArc_swap nodes a
theorem IsDist.le {n : Nat} {l : List S61} {s : Int} {D : List Int} (h : IsDist n l s D) {y c : Int} (h0 : 0 ≤ y) (h1 : y < n) (w : Walk l s y c) (hc : c < Far) : rd D y ≠ Far ∧ rd D y ≤ c ∧ 0 ≤ rd D y ∧ rd D y ≤ 693 := by
  have := h.least y c w
  have hFar : Far = (99999 : Int) := rfl
  rcases h.few y h0 h1 with e | e
  · omega
  · exact ⟨by omega, this, e.1, e.2⟩
theorem IsDist.leFar {n : Nat} {l : List S61} {s : Int} {D : List Int} (h : IsDist n l s D) {y : Int} (h0 : 0 ≤ y) (h1 : y < n) : 0 ≤ rd D y ∧ rd D y ≤ 99999 ∧ (rd D y ≠ 99999 → rd D y ≤ 693) := by
  have hFar : Far = (99999 : Int) := rfl
  rcases h.few y h0 h1 with e | e <;> omega
theorem IsDist.self {n : Nat} {l : List S61} {s : Int} {D : List Int} (h : IsDist n l s D) (hs : 0 ≤ s ∧ s < n) : rd D s = 0 := by
  have := h.le hs.1 hs.2 Walk.nil (by decide)
  omega
/-- where the same walks lead, the same numbers stand -/
theorem dist_le {n : Nat} {l m : List S61} {s t y z : Int} {D E : List Int} (hD : IsDist n l s D) (hE : IsDist n m t E) (hy : 0 ≤ y ∧ y < n) (hz : 0 ≤ z ∧ z < n) (hw : ∀ c, Walk m t z c → Walk l s y c) : rd D y ≤ rd E z := by
  have hFar : Far = (99999 : Int) := rfl
  rcases hE.few z hz.1 hz.2 with e | e
  · have := hD.leFar hy.1 hy.2
    omega
  · exact hD.least y _ (hw _ (hE.walk z hz.1 hz.2 (by omega)))
theorem dist_congr {n : Nat} {l m : List S61} {s t y z : Int} {D E : List Int} (hD : IsDist n l s D) (hE : IsDist n m t E) (hy : 0 ≤ y ∧ y < n) (hz : 0 ≤ z ∧ z < n) (hw : ∀ c, Walk m t z c ↔ Walk l s y c) : rd D y = rd E z :=
  Int.le_antisymm (dist_le hD hE hy hz (fun c => (hw c).1)) (dist_le hE hD hz hy (fun c => (hw c).2))
theorem dist_rev {n : Nat} {l : List S61} {s t : Int} {D E : List Int} (hD : IsDist n l s D) (hE : IsDist n (l.map swapA) t E) (hs : 0 ≤ s ∧ s < n) (ht : 0 ≤ t ∧ t < n) : rd D t = rd E s :=
  dist_congr hD hE ht hs (fun c => walk_swap)
theorem list_ext {n : Nat} {D E : List Int} (h1 : D.length = n) (h2 : E.length = n) (h : ∀ i : Nat, i < n → rd D (i : Int) = rd E (i : Int)) : D = E := by
  apply List.ext_getElem (by omega)
  intro i h1' h2'
  have := h i (by omega)
  rwa [rd_at0 _ i h1', rd_at0 _ i h2'] at this
theorem dist_uniq {n : Nat} {l m : List S61} {s : Int} {D E : List Int} (hD : IsDist n l s D) (hE : IsDist n m s E) (hw : ∀ y c, Walk m s y c ↔ Walk l s y c) : D = E :=
  list_ext hD.len hE.len (fun i hi => dist_congr hD hE ⟨by omega, by omega⟩ ⟨by omega, by omega⟩ (hw _))
/-- one arc more -/
theorem dist_arc {n : Nat} {l : List S61} (hg : Good n l) {s : Int} {D : List Int} (hD : IsDist n l s D) {a : S61} (ha : a ∈ l) (hf : rd D a.f0 ≠ Far) : rd D a.f1 ≠ Far ∧ rd D a.f1 ≤ rd D a.f0 + a.f2 := by
  obtain ⟨h0, h1, h2, h3, h4, h5⟩ := hg a ha
  have hFar : Far = (99999 : Int) := rfl
  have hb := hD.leFar h0 h1
  have := hD.le h2 h3 ((hD.walk _ h0 h1 hf).snoc ha) (by omega)
  exact ⟨this.1, this.2.1⟩
/-- the way over a node -/
theorem dist_over {n : Nat} {l : List S61} {s m : Int} {D E : List Int} (hD : IsDist n l s D) (hE : IsDist n l m E) (hm : 0 ≤ m ∧ m < n) {t : Int} (ht : 0 ≤ t ∧ t < n) (h1 : rd D m ≠ Far) (h2 : rd E t ≠ Far) : rd D t ≠ Far ∧ rd D t ≤ rd D m + rd E t := by
  have hFar : Far = (99999 : Int) := rfl
  have b1 := hD.leFar hm.1 hm.2
  have b2 := hE.leFar ht.1 ht.2
  have := hD.le ht.1 ht.2 ((hD.walk _ hm.1 hm.2 h1).append (hE.walk _ ht.1 ht.2 h2)) (by omega)
  exact ⟨this.1, this.2.1⟩
end Go.Proofs.Ytdlaaccnaokdnaa.M
