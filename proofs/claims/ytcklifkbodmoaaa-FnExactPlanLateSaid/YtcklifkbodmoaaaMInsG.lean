/- A list of connections laid in one by one, each behind those that go no later: plain lists. -/
import Derived.Test.YtcklifkbodmoaaaPx0
set_option linter.unusedVariables false
namespace Go.Proofs.Ytcklifkbodmoaaa.M
open Go.RowKit Go.Proofs.Ytcklifkbodmoaaa.P Go.Proofs.YtcklifkbodmoaaaV.PrintWords Go.Proofs.YtcklifkbodmoaaaV.PrintMore
abbrev Co := S32
/-- laid in behind all at the row's head that go no later -/
def insG (x : Co) : List Co → List Co
  | [] => [x]
  | y :: r => if y.f2 ≤ x.f2 then y :: insG x r else x :: y :: r
theorem insG_length (x : Co) : ∀ l, (insG x l).length = l.length + 1
  | [] => rfl
  | y :: r => by
    unfold insG
    split
    · rw [List.length_cons, insG_length x r, List.length_cons]
    · rfl
theorem insG_split (x : Co) : ∀ (l : List Co) (i : Nat), i ≤ l.length → (∀ j (hj : j < l.length), j < i → l[j].f2 ≤ x.f2) → (∀ hi : i < l.length, ¬ l[i].f2 ≤ x.f2) → insG x l = l.take i ++ x :: l.drop i
  | [], i, hi, _, _ => by
    have : i = 0 := by simpa using hi
    subst this
    rfl
  | y :: r, 0, _, _, h => by
    have := h (by simp)
    simp only [List.getElem_cons_zero] at this
    simp only [insG, if_neg this, List.take_zero, List.drop_zero, List.nil_append]
  | y :: r, i + 1, hi, ha, hb => by
    have h0 := ha 0 (by simp) (by omega)
    simp only [List.getElem_cons_zero] at h0
    simp only [insG, if_pos h0, List.take_succ_cons, List.drop_succ_cons, List.cons_append]
    congr 1
    refine insG_split x r i (by simpa using hi) (fun j hj hji => ?_) (fun h => ?_)
    · have := ha (j + 1) (by simp; omega) (by omega)
      simpa using this
    · have := hb (by simp; omega)
      simpa using this
theorem mem_insG {x y : Co} : ∀ {l : List Co}, y ∈ insG x l ↔ y = x ∨ y ∈ l
  | [] => by simp [insG]
  | z :: r => by
    unfold insG
    split
    · rw [List.mem_cons, mem_insG, List.mem_cons]
      constructor
      · rintro (h | h | h)
        · exact .inr (.inl h)
        · exact .inl h
        · exact .inr (.inr h)
      · rintro (h | h | h)
        · exact .inr (.inl h)
        · exact .inl h
        · exact .inr (.inr h)
    · rw [List.mem_cons]
abbrev AscG (l : List Co) : Prop := l.Pairwise fun a b => a.f2 ≤ b.f2
theorem insG_asc (x : Co) : ∀ {l : List Co}, AscG l → AscG (insG x l)
  | [], _ => List.pairwise_singleton _ _
  | y :: r, h => by
    obtain ⟨h1, h2⟩ := List.pairwise_cons.1 h
    unfold insG
    split
    · rename_i hy
      refine List.pairwise_cons.2 ⟨fun z hz => ?_, insG_asc x h2⟩
      rcases mem_insG.1 hz with rfl | hz
      · exact hy
      · exact h1 z hz
    · rename_i hy
      refine List.pairwise_cons.2 ⟨fun z hz => ?_, h⟩
      rcases List.mem_cons.1 hz with rfl | hz
      · omega
      · have := h1 z hz
        omega
def sortG (l : List Co) : List Co := l.foldl (fun acc c => insG c acc) []
theorem sortG_snoc (l : List Co) (i : Nat) (hi : i < l.length) : sortG (l.take (i + 1)) = insG l[i] (sortG (l.take i)) := by
  unfold sortG
  rw [List.take_add_one, List.getElem?_eq_getElem hi, List.foldl_append]
  rfl
theorem sortG_asc (l : List Co) : AscG (sortG l) := by
  have : ∀ (l acc : List Co), AscG acc → AscG (l.foldl (fun acc c => insG c acc) acc) := by
    intro l
    induction l with
    | nil => exact fun _ h => h
    | cons x l ih => exact fun acc h => ih _ (insG_asc x h)
  exact this l [] List.Pairwise.nil
theorem sortG_len (l : List Co) : (sortG l).length = l.length := by
  have : ∀ (l acc : List Co), (l.foldl (fun acc c => insG c acc) acc).length = acc.length + l.length := by
    intro l
    induction l with
    | nil => intro acc; simp
    | cons x l ih => intro acc; rw [List.foldl_cons, ih, insG_length, List.length_cons]; omega
  unfold sortG
  rw [this]
  simp
/-- where a connection that sinks comes to rest -/
theorem insG_stop {x : Co} {S : List Co} (hS : AscG S) {j : Nat} (hj : j ≤ S.length) (h1 : ∀ (h0 : 0 < j), (S[j - 1]'(by omega)).f2 ≤ x.f2) (h2 : ∀ t (ht : t < S.length), j ≤ t → ¬ S[t].f2 ≤ x.f2) : insG x S = S.take j ++ x :: S.drop j := by
  refine insG_split x S j hj (fun t ht htj => ?_) (fun hj2 => h2 j hj2 (Nat.le_refl _))
  have a := h1 (by omega)
  by_cases e : t = j - 1
  · subst e; exact a
  · have := List.pairwise_iff_getElem.1 hS t (j - 1) ht (by omega) (by omega)
    omega
/-- one exchange -/
theorem sink_step (S R : List Co) (x : Co) (j : Nat) (hj : j < S.length) : ((S.take (j + 1) ++ x :: R).set (j + 1) S[j]).set j x = S.take j ++ x :: (S[j] :: R) := by
  have e : S.take (j + 1) = S.take j ++ [S[j]] := by rw [List.take_add_one, List.getElem?_eq_getElem hj]; rfl
  have l : (S.take j).length = j := by rw [List.length_take]; omega
  rw [e, List.append_assoc]
  simp only [List.singleton_append]
  rw [List.set_append_right _ _ (by omega), l, show j + 1 - j = 1 by omega]
  rw [List.set_append_right _ _ (by omega), l, Nat.sub_self]
  rfl
end Go.Proofs.Ytcklifkbodmoaaa.M
