/- A list of steps laid in one by one: whoever goes later, and of those that go at once whoever comes earlier, ahead: plain lists. -/
import Derived.Test.YtcklifkbodmoaaaPx0
set_option linter.unusedVariables false
namespace Go.Proofs.Ytcklifkbodmoaaa.M
open Go.RowKit Go.Proofs.Ytcklifkbodmoaaa.P Go.Proofs.YtcklifkbodmoaaaV.PrintWords Go.Proofs.YtcklifkbodmoaaaV.PrintMore
abbrev Stp := S66
def ltS (x y : Stp) : Prop := y.f0 < x.f0 ∨ (x.f0 = y.f0 ∧ x.f1 < y.f1)
instance (x y : Stp) : Decidable (ltS x y) := inferInstanceAs (Decidable (y.f0 < x.f0 ∨ (x.f0 = y.f0 ∧ x.f1 < y.f1)))
def cmpS (x y : Stp) : Int := if y.f0 < x.f0 then -1 else if y.f0 > x.f0 then 1 else if x.f1 < y.f1 then -1 else if x.f1 > y.f1 then 1 else 0
theorem cmpS_neg (x y : Stp) : cmpS x y < 0 ↔ ltS x y := by
  unfold cmpS ltS
  split
  · omega
  · split
    · omega
    · split
      · omega
      · split <;> omega
theorem rdSt_at (l : List Stp) (i : Nat) (hi : i < l.length) : rd_T66 l (i : Int) = l[i] := by
  simp [rd_T66, List.getD, hi]
/-- laid in behind all at the row's head that are to be ahead -/
def insS (x : Stp) : List Stp → List Stp
  | [] => [x]
  | y :: r => if ltS x y then x :: y :: r else y :: insS x r
theorem insS_length (x : Stp) : ∀ l, (insS x l).length = l.length + 1
  | [] => rfl
  | y :: r => by
    unfold insS
    split
    · rfl
    · rw [List.length_cons, insS_length x r, List.length_cons]
theorem insS_split (x : Stp) : ∀ (l : List Stp) (i : Nat), i ≤ l.length → (∀ j (hj : j < l.length), j < i → ¬ ltS x l[j]) → (∀ hi : i < l.length, ltS x l[i]) → insS x l = l.take i ++ x :: l.drop i
  | [], i, hi, _, _ => by
    have : i = 0 := by simpa using hi
    subst this
    rfl
  | y :: r, 0, _, _, h => by
    have := h (by simp)
    simp only [List.getElem_cons_zero] at this
    simp only [insS, if_pos this, List.take_zero, List.drop_zero, List.nil_append]
  | y :: r, i + 1, hi, ha, hb => by
    have h0 := ha 0 (by simp) (by omega)
    simp only [List.getElem_cons_zero] at h0
    simp only [insS, if_neg h0, List.take_succ_cons, List.drop_succ_cons, List.cons_append]
    congr 1
    refine insS_split x r i (by simpa using hi) (fun j hj hji => ?_) (fun h => ?_)
    · have := ha (j + 1) (by simp; omega) (by omega)
      simpa using this
    · have := hb (by simp; omega)
      simpa using this
theorem mem_insS {x y : Stp} : ∀ {l : List Stp}, y ∈ insS x l ↔ y = x ∨ y ∈ l
  | [] => by simp [insS]
  | z :: r => by
    unfold insS
    split
    · rw [List.mem_cons]
    · rw [List.mem_cons, mem_insS, List.mem_cons]
      constructor
      · rintro (h | h | h)
        · exact .inr (.inl h)
        · exact .inl h
        · exact .inr (.inr h)
      · rintro (h | h | h)
        · exact .inr (.inl h)
        · exact .inl h
        · exact .inr (.inr h)
abbrev AscS (l : List Stp) : Prop := l.Pairwise fun a b => ¬ ltS b a
theorem insS_asc (x : Stp) : ∀ {l : List Stp}, AscS l → AscS (insS x l)
  | [], _ => List.pairwise_singleton _ _
  | y :: r, h => by
    obtain ⟨h1, h2⟩ := List.pairwise_cons.1 h
    unfold insS
    split
    · rename_i hy
      refine List.pairwise_cons.2 ⟨fun z hz => ?_, h⟩
      rcases List.mem_cons.1 hz with rfl | hz
      · unfold ltS at hy ⊢
        omega
      · have := h1 z hz
        unfold ltS at hy this ⊢
        omega
    · rename_i hy
      refine List.pairwise_cons.2 ⟨fun z hz => ?_, insS_asc x h2⟩
      rcases mem_insS.1 hz with rfl | hz
      · exact hy
      · exact h1 z hz
def sortS (l : List Stp) : List Stp := l.foldl (fun acc c => insS c acc) []
theorem sortS_snoc (l : List Stp) (i : Nat) (hi : i < l.length) : sortS (l.take (i + 1)) = insS l[i] (sortS (l.take i)) := by
  unfold sortS
  rw [List.take_add_one, List.getElem?_eq_getElem hi, List.foldl_append]
  rfl
theorem sortS_asc (l : List Stp) : AscS (sortS l) := by
  have : ∀ (l acc : List Stp), AscS acc → AscS (l.foldl (fun acc c => insS c acc) acc) := by
    intro l
    induction l with
    | nil => exact fun _ h => h
    | cons x l ih => exact fun acc h => ih _ (insS_asc x h)
  exact this l [] List.Pairwise.nil
theorem sortS_len (l : List Stp) : (sortS l).length = l.length := by
  have : ∀ (l acc : List Stp), (l.foldl (fun acc c => insS c acc) acc).length = acc.length + l.length := by
    intro l
    induction l with
    | nil => intro acc; simp
    | cons x l ih => intro acc; rw [List.foldl_cons, ih, insS_length, List.length_cons]; omega
  unfold sortS
  rw [this]
  simp
theorem mem_sortS (l : List Stp) (y : Stp) : y ∈ sortS l ↔ y ∈ l := by
  have : ∀ (l acc : List Stp), y ∈ l.foldl (fun acc c => insS c acc) acc ↔ y ∈ acc ∨ y ∈ l := by
    intro l
    induction l with
    | nil => intro acc; simp
    | cons x l ih =>
      intro acc
      rw [List.foldl_cons, ih, mem_insS, List.mem_cons]
      constructor
      · rintro ((h | h) | h)
        · exact .inr (.inl h)
        · exact .inl h
        · exact .inr (.inr h)
      · rintro (h | h | h)
        · exact .inl (.inr h)
        · exact .inl (.inl h)
        · exact .inr h
  unfold sortS
  rw [this]
  simp
/-- where a step that sinks comes to rest -/
theorem insS_stop {x : Stp} {S : List Stp} (hS : AscS S) {j : Nat} (hj : j ≤ S.length) (h1 : ∀ (h0 : 0 < j), ¬ ltS x (S[j - 1]'(by omega))) (h2 : ∀ t (ht : t < S.length), j ≤ t → ltS x S[t]) : insS x S = S.take j ++ x :: S.drop j := by
  refine insS_split x S j hj (fun t ht htj => ?_) (fun hj2 => h2 j hj2 (Nat.le_refl _))
  have a := h1 (by omega)
  by_cases e : t = j - 1
  · subst e; exact a
  · have := List.pairwise_iff_getElem.1 hS t (j - 1) ht (by omega) (by omega)
    unfold ltS at a this ⊢
    omega
/-- one exchange -/
theorem sink_stepS (S R : List Stp) (x : Stp) (j : Nat) (hj : j < S.length) : ((S.take (j + 1) ++ x :: R).set (j + 1) S[j]).set j x = S.take j ++ x :: (S[j] :: R) := by
  have e : S.take (j + 1) = S.take j ++ [S[j]] := by rw [List.take_add_one, List.getElem?_eq_getElem hj]; rfl
  have l : (S.take j).length = j := by rw [List.length_take]; omega
  rw [e, List.append_assoc]
  simp only [List.singleton_append]
  rw [List.set_append_right _ _ (by omega), l, show j + 1 - j = 1 by omega]
  rw [List.set_append_right _ _ (by omega), l, Nat.sub_self]
  rfl
end Go.Proofs.Ytcklifkbodmoaaa.M
