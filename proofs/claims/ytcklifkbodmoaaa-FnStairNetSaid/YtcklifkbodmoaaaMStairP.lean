/- Stairs of a timetable: of a table of arrivals that never falls, the last time of each arrival; the program's PlanStair and the reference's tell one stair. -/
import Derived.Test.YtcklifkbodmoaaaMInsS
import Derived.Test.YtcklifkbodmoaaaMPlanAll
import Derived.Test.YtcklifkbodmoaaaPFImplPlanstair
import Derived.Test.YtcklifkbodmoaaaPFSpecPlanstair
import Derived.Test.YtcklifkbodmoaaaGStair
set_option linter.unusedVariables false
namespace Go.Proofs.Ytcklifkbodmoaaa.M
open Go.RowKit Go.Proofs.Ytcklifkbodmoaaa.P Go.Proofs.YtcklifkbodmoaaaV.PrintWords Go.Proofs.YtcklifkbodmoaaaV.PrintMore
/-- a table of arrivals -/
structure Arr (A : Nat → Int) : Prop where
  mono : ∀ i j, i ≤ j → j ≤ 200 → A i ≤ A j
  top : A 200 = 99999
  bnd : ∀ i, i ≤ 199 → A i = 99999 ∨ ((i : Int) ≤ A i ∧ A i ≤ 199)
def stairC (A : Nat → Int) (g : Nat) : Bool := decide (A g ≠ 99999) && decide (A (g + 1) ≠ A g)
def stairL (A : Nat → Int) (n : Nat) : List Stp := (List.range n).filterMap fun g => if stairC A g = true then some ⟨(g : Int), A g⟩ else none
theorem stairL_succ (A : Nat → Int) (n : Nat) : stairL A (n + 1) = stairL A n ++ (if stairC A n = true then [⟨(n : Int), A n⟩] else []) := by
  unfold stairL
  rw [List.range_succ, List.filterMap_append]
  congr 1
  simp only [List.filterMap_cons, List.filterMap_nil]
  split <;> simp_all
theorem mem_stairL {A : Nat → Int} {n : Nat} {x : Stp} : x ∈ stairL A n ↔ ∃ g, g < n ∧ stairC A g = true ∧ x = ⟨(g : Int), A g⟩ := by
  unfold stairL
  rw [List.mem_filterMap]
  constructor
  · rintro ⟨g, hg, h⟩
    split at h
    · rename_i hc
      exact ⟨g, List.mem_range.1 hg, hc, (Option.some.inj h).symm⟩
    · cases h
  · rintro ⟨g, hg, hc, rfl⟩
    exact ⟨g, List.mem_range.2 hg, by rw [if_pos hc]⟩
theorem stairL_len (A : Nat → Int) (n : Nat) : (stairL A n).length ≤ n := by
  unfold stairL
  refine Nat.le_trans (List.length_filterMap_le _ _) ?_
  simp
theorem stairC_iff {A : Nat → Int} {g : Nat} : stairC A g = true ↔ A g ≠ 99999 ∧ A (g + 1) ≠ A g := by simp [stairC]
theorem stairL_asc {A : Nat → Int} (hA : Arr A) : ∀ n, n ≤ 200 → (stairL A n).Pairwise fun a b => a.f0 < b.f0 ∧ a.f1 < b.f1
  | 0, _ => by simp [stairL]
  | n + 1, hn => by
    rw [stairL_succ]
    refine List.pairwise_append.2 ⟨stairL_asc hA n (by omega), ?_, fun a ha b hb => ?_⟩
    · split
      · exact List.pairwise_singleton _ _
      · exact List.Pairwise.nil
    · split at hb
      · obtain rfl := List.mem_singleton.1 hb
        obtain ⟨g, hg, hc, rfl⟩ := mem_stairL.1 ha
        have h1 := hA.mono g (g + 1) (by omega) (by omega)
        have h2 := hA.mono (g + 1) n (by omega) (by omega)
        have h3 := (stairC_iff.1 hc).2
        exact ⟨by simp only; omega, by simp only; omega⟩
      · cases hb
theorem stairL_ok {A : Nat → Int} (hA : Arr A) {x : Stp} (hx : x ∈ stairL A 200) : 0 ≤ x.f0 ∧ x.f0 ≤ x.f1 ∧ x.f1 ≤ 199 := by
  obtain ⟨g, hg, hc, rfl⟩ := mem_stairL.1 hx
  have := hA.bnd g (by omega)
  have h := (stairC_iff.1 hc).1
  simp only
  omega
/-- the last time at which one comes no later -/
theorem run_end {A : Nat → Int} (hA : Arr A) : ∀ (d at_ : Nat), at_ + d = 200 → A at_ ≠ 99999 → ∃ g, at_ ≤ g ∧ g < 200 ∧ A g = A at_ ∧ stairC A g = true
  | 0, at_, h, hf => by
    have : at_ = 200 := by omega
    subst this
    exact absurd hA.top hf
  | d + 1, at_, h, hf => by
    by_cases hc : A (at_ + 1) = A at_
    · obtain ⟨g, h1, h2, h3, h4⟩ := run_end hA d (at_ + 1) (by omega) (by rw [hc]; exact hf)
      exact ⟨g, by omega, h2, h3.trans hc, h4⟩
    · exact ⟨at_, Nat.le_refl _, by omega, rfl, stairC_iff.2 ⟨hf, hc⟩⟩
/-- two lists that strictly ascend and have the same members are one -/
theorem strict_eq : ∀ {a b : List Stp}, a.Pairwise (fun x y => x.f0 < y.f0) → b.Pairwise (fun x y => x.f0 < y.f0) → (∀ x, x ∈ a ↔ x ∈ b) → a = b
  | [], [], _, _, _ => rfl
  | [], y :: b, _, _, h => absurd ((h y).2 (List.mem_cons_self ..)) (by simp)
  | x :: a, [], _, _, h => absurd ((h x).1 (List.mem_cons_self ..)) (by simp)
  | x :: a, y :: b, ha, hb, h => by
    obtain ⟨ha1, ha2⟩ := List.pairwise_cons.1 ha
    obtain ⟨hb1, hb2⟩ := List.pairwise_cons.1 hb
    have hxy : x = y := by
      rcases List.mem_cons.1 ((h x).1 (List.mem_cons_self ..)) with e | h1
      · exact e
      · rcases List.mem_cons.1 ((h y).2 (List.mem_cons_self ..)) with e | h2
        · exact e.symm
        · have := ha1 y h2
          have := hb1 x h1
          omega
    subst hxy
    congr 1
    refine strict_eq ha2 hb2 fun z => ?_
    have hz := h z
    rw [List.mem_cons, List.mem_cons] at hz
    constructor
    · intro hm
      rcases hz.1 (.inr hm) with rfl | h1
      · exact absurd (ha1 z hm) (by omega)
      · exact h1
    · intro hm
      rcases hz.2 (.inr hm) with rfl | h1
      · exact absurd (hb1 z hm) (by omega)
      · exact h1
/-- what the program keeps: whoever comes earlier than the last that was kept -/
def kp (out : List Stp) (x : Stp) : List Stp := if out.length = 0 ∨ x.f1 < (rd_T66 out ((out.length : Int) - 1)).f1 then out ++ [x] else out
def keepF (S : List Stp) : List Stp := S.foldl kp []
theorem keepF_snoc (S : List Stp) (i : Nat) (hi : i < S.length) : keepF (S.take (i + 1)) = kp (keepF (S.take i)) S[i] := by
  unfold keepF
  rw [List.take_add_one, List.getElem?_eq_getElem hi, List.foldl_append]
  rfl
theorem rd_last (o : List Stp) (z : Stp) : rd_T66 (o ++ [z]) (((o ++ [z]).length : Int) - 1) = z := by
  have e : (((o ++ [z]).length : Int) - 1) = ((o.length : Nat) : Int) := by rw [List.length_append, List.length_singleton]; omega
  rw [e, rdSt_at _ _ (by simp)]
  simp
structure Kept1 (P out : List Stp) : Prop where
  asc : out.Pairwise fun a b => a.f1 > b.f1 ∧ a.f0 > b.f0
  sub : ∀ z ∈ out, z ∈ P ∧ ∀ y ∈ P, y.f0 > z.f0 → y.f1 > z.f1
  all : ∀ x ∈ P, (∀ y ∈ P, y.f0 > x.f0 → y.f1 > x.f1) → x ∈ out
  last : (P = [] ∧ out = []) ∨ ∃ o z, out = o ++ [z] ∧ ∀ y ∈ P, z.f1 ≤ y.f1
theorem kept_nil : Kept1 [] [] := ⟨List.Pairwise.nil, by simp, by simp, .inl ⟨rfl, rfl⟩⟩
theorem kept_step {P out : List Stp} {x : Stp} (h : Kept1 P out) (hd : ∀ y ∈ P, x.f0 ≤ y.f0) (hg : ∀ y ∈ P, (x.f0 ≤ y.f0 → x.f1 ≤ y.f1) ∧ (y.f0 ≤ x.f0 → y.f1 ≤ x.f1)) : Kept1 (P ++ [x]) (kp out x) := by
  unfold kp
  rcases h.last with ⟨rfl, rfl⟩ | ⟨o, z, rfl, hz⟩
  · rw [if_pos (.inl rfl)]
    refine ⟨by simp, fun a ha => ?_, fun a ha _ => by simpa using ha, .inr ⟨[], x, rfl, fun y hy => ?_⟩⟩
    · have e : a = x := by simpa using ha
      subst e
      refine ⟨by simp, fun y hy hlt => ?_⟩
      have e2 : y = a := by simpa using hy
      subst e2
      exact absurd hlt (Int.lt_irrefl _)
    · have e2 : y = x := by simpa using hy
      subst e2
      exact Int.le_refl _
  · rw [rd_last]
    have hzP : z ∈ P := (h.sub z (by simp)).1
    by_cases hc : x.f1 < z.f1
    · rw [if_pos (.inr hc)]
      refine ⟨?_, fun a ha => ?_, fun a ha hall => ?_, .inr ⟨o ++ [z], x, rfl, fun y hy => ?_⟩⟩
      · refine List.pairwise_append.2 ⟨h.asc, List.pairwise_singleton _ _, fun a ha b hb => ?_⟩
        obtain rfl := List.mem_singleton.1 hb
        have haP := (h.sub a ha).1
        have h1 := hz a haP
        have h2 := hd a haP
        have h3 := hg a haP
        refine ⟨by omega, ?_⟩
        rcases Int.lt_or_le b.f0 a.f0 with h4 | h4
        · exact h4
        · have := h3.2 h4
          omega
      · rcases List.mem_append.1 ha with ha | ha
        · obtain ⟨h1, h2⟩ := h.sub a ha
          refine ⟨List.mem_append_left _ h1, fun y hy hlt => ?_⟩
          rcases List.mem_append.1 hy with hy | hy
          · exact h2 y hy hlt
          · obtain rfl := List.mem_singleton.1 hy
            have := hd a h1
            omega
        · obtain rfl := List.mem_singleton.1 ha
          refine ⟨by simp, fun y hy hlt => ?_⟩
          rcases List.mem_append.1 hy with hy | hy
          · have := hz y hy
            omega
          · obtain rfl := List.mem_singleton.1 hy
            exact absurd hlt (Int.lt_irrefl _)
      · rcases List.mem_append.1 ha with ha | ha
        · exact List.mem_append_left _ (h.all a ha (fun y hy hlt => hall y (List.mem_append_left _ hy) hlt))
        · exact List.mem_append_right _ ha
      · rcases List.mem_append.1 hy with hy | hy
        · have := hz y hy
          omega
        · obtain rfl := List.mem_singleton.1 hy
          exact Int.le_refl _
    · rw [if_neg (by
        rintro (h1 | h1)
        · simp at h1
        · exact hc h1)]
      refine ⟨h.asc, fun a ha => ?_, fun a ha hall => ?_, .inr ⟨o, z, rfl, fun y hy => ?_⟩⟩
      · obtain ⟨h1, h2⟩ := h.sub a ha
        refine ⟨List.mem_append_left _ h1, fun y hy hlt => ?_⟩
        rcases List.mem_append.1 hy with hy | hy
        · exact h2 y hy hlt
        · obtain rfl := List.mem_singleton.1 hy
          have := hd a h1
          omega
      · rcases List.mem_append.1 ha with ha | ha
        · exact h.all a ha (fun y hy hlt => hall y (List.mem_append_left _ hy) hlt)
        · obtain rfl := List.mem_singleton.1 ha
          have h1 := hd z hzP
          have h2 := hg z hzP
          by_cases h3 : z.f0 > a.f0
          · have := hall z (List.mem_append_left _ hzP) h3
            omega
          · have h4 : a.f0 = z.f0 := by omega
            have h5 := h2.1 (by omega)
            have h6 : a.f1 = z.f1 := by omega
            have : a = z := by
              cases a
              cases z
              simp_all
            rw [this]
            simp
      · rcases List.mem_append.1 hy with hy | hy
        · exact hz y hy
        · obtain rfl := List.mem_singleton.1 hy
          omega
theorem keepF_kept {S : List Stp} (hS : AscS S) (hg : ∀ x ∈ S, ∀ y ∈ S, x.f0 ≤ y.f0 → x.f1 ≤ y.f1) : Kept1 S (keepF S) := by
  have key : ∀ i, i ≤ S.length → Kept1 (S.take i) (keepF (S.take i)) := by
    intro i
    induction i with
    | zero => intro _; exact kept_nil
    | succ i ih =>
      intro hi
      rw [keepF_snoc S i hi]
      have e : S.take (i + 1) = S.take i ++ [S[i]] := by rw [List.take_add_one, List.getElem?_eq_getElem hi]; rfl
      rw [e]
      have hxS : S[i] ∈ S := List.getElem_mem hi
      refine kept_step (ih (by omega)) (fun y hy => ?_) (fun y hy => ⟨hg _ hxS _ (List.mem_of_mem_take hy), hg _ (List.mem_of_mem_take hy) _ hxS⟩)
      obtain ⟨j, hj, rfl⟩ := List.getElem_of_mem hy
      rw [List.length_take] at hj
      rw [List.getElem_take]
      have := List.pairwise_iff_getElem.1 hS j i (by omega) hi (by omega)
      unfold ltS at this
      omega
  have := key S.length (Nat.le_refl _)
  rwa [List.take_length] at this
theorem keepF_len (S : List Stp) : (keepF S).length ≤ S.length := by
  have : ∀ (S acc : List Stp), (S.foldl kp acc).length ≤ acc.length + S.length := by
    intro S
    induction S with
    | nil => intro acc; simp
    | cons x S ih =>
      intro acc
      have h1 := ih (kp acc x)
      have h2 : (kp acc x).length ≤ acc.length + 1 := by
        unfold kp
        split <;> simp
      rw [List.foldl_cons, List.length_cons]
      omega
  have h := this S []
  simp only [List.length_nil, Nat.zero_add] at h
  exact h
/-- the program's stair is the stair -/
theorem keep_stair {A : Nat → Int} (hA : Arr A) {L : List Stp} (h1 : ∀ x ∈ L, ∃ g, g < 200 ∧ A g ≠ 99999 ∧ x = ⟨(g : Int), A g⟩)
    (h2 : ∀ at_, at_ < 200 → A at_ ≠ 99999 → ∃ g, at_ ≤ g ∧ g < 200 ∧ A g = A at_ ∧ (⟨(g : Int), A g⟩ : Stp) ∈ L) : (keepF (sortS L)).reverse = stairL A 200 := by
  have hg : ∀ x ∈ sortS L, ∀ y ∈ sortS L, x.f0 ≤ y.f0 → x.f1 ≤ y.f1 := by
    intro x hx y hy hxy
    obtain ⟨g, g1, g2, rfl⟩ := h1 x ((mem_sortS _ _).1 hx)
    obtain ⟨g', g1', g2', rfl⟩ := h1 y ((mem_sortS _ _).1 hy)
    exact hA.mono g g' (by simp only at hxy; omega) (by omega)
  have K := keepF_kept (sortS_asc L) hg
  refine strict_eq ?_ ((stairL_asc hA 200 (Nat.le_refl _)).imp fun h => h.1) (fun x => ?_)
  · rw [List.pairwise_reverse]
    exact K.asc.imp fun h => h.2
  · rw [List.mem_reverse, mem_stairL]
    constructor
    · intro hx
      obtain ⟨k1, k2⟩ := K.sub x hx
      obtain ⟨g, g1, g2, rfl⟩ := h1 x ((mem_sortS _ _).1 k1)
      refine ⟨g, g1, stairC_iff.2 ⟨g2, fun e => ?_⟩, rfl⟩
      have hg1 : g + 1 < 200 := by
        rcases Nat.lt_or_ge (g + 1) 200 with h | h
        · exact h
        · have h3 : g + 1 = 200 := by omega
          rw [h3, hA.top] at e
          exact absurd e.symm g2
      obtain ⟨g', a1, a2, a3, a4⟩ := h2 (g + 1) hg1 (by rw [e]; exact g2)
      have := k2 _ ((mem_sortS _ _).2 a4) (by simp only; omega)
      simp only at this
      rw [a3, e] at this
      exact absurd this (Int.lt_irrefl _)
    · rintro ⟨g, g1, hc, rfl⟩
      obtain ⟨c1, c2⟩ := stairC_iff.1 hc
      obtain ⟨g', a1, a2, a3, a4⟩ := h2 g g1 c1
      have hgg : g' = g := by
        rcases Nat.lt_or_ge g g' with h | h
        · have b1 := hA.mono g (g + 1) (by omega) (by omega)
          have b2 := hA.mono (g + 1) g' (by omega) (by omega)
          omega
        · omega
      subst hgg
      refine K.all _ ((mem_sortS _ _).2 a4) (fun y hy hlt => ?_)
      obtain ⟨g2, b1, b2, rfl⟩ := h1 y ((mem_sortS _ _).1 hy)
      simp only at hlt ⊢
      have d1 := hA.mono g' (g' + 1) (by omega) (by omega)
      have d2 := hA.mono (g' + 1) g2 (by omega) (by omega)
      omega
/-- the arrival that a stair tells -/
theorem arrival_find {A : Nat → Int} (hA : Arr A) (at_ : Nat) (h : at_ ≤ 199) : (∀ i (hi : i < (stairL A 200).length), (∀ j (hj : j < i), (stairL A 200)[j].f0 < at_) → (stairL A 200)[i].f0 ≥ at_ → (stairL A 200)[i].f1 = A at_) ∧ ((∀ j (hj : j < (stairL A 200).length), (stairL A 200)[j].f0 < at_) → A at_ = 99999) := by
  constructor
  · intro i hi hb hge
    have hm := List.getElem_mem hi
    obtain ⟨g, g1, gc, he⟩ := mem_stairL.1 hm
    rw [he] at hge ⊢
    simp only at hge ⊢
    have m1 := hA.mono at_ g (by omega) (by omega)
    have hf : A at_ ≠ 99999 := by
      intro e
      have := hA.bnd g (by omega)
      have := (stairC_iff.1 gc).1
      omega
    obtain ⟨g', a1, a2, a3, a4⟩ := run_end hA (200 - at_) at_ (by omega) hf
    have hm' : (⟨(g' : Int), A g'⟩ : Stp) ∈ stairL A 200 := mem_stairL.2 ⟨g', a2, a4, rfl⟩
    obtain ⟨k, hk, hke⟩ := List.getElem_of_mem hm'
    have hik : i ≤ k := by
      rcases Nat.lt_or_ge k i with h5 | h5
      · have := hb k h5
        rw [hke] at this
        simp only at this
        omega
      · exact h5
    have hgg : (g : Int) ≤ g' := by
      rcases Nat.lt_or_eq_of_le hik with h5 | h5
      · have := (List.pairwise_iff_getElem.1 (stairL_asc hA 200 (Nat.le_refl _)) i k hi hk h5).1
        rw [he, hke] at this
        simp only at this
        omega
      · subst h5
        rw [he] at hke
        have : (g : Int) = g' := by
          have := congrArg (fun (s : Stp) => s.f0) hke
          simpa using this
        omega
    have m2 := hA.mono g g' (by omega) (by omega)
    omega
  · intro hall
    by_cases hf : A at_ = 99999
    · exact hf
    · obtain ⟨g', a1, a2, a3, a4⟩ := run_end hA (200 - at_) at_ (by omega) hf
      obtain ⟨k, hk, hke⟩ := List.getElem_of_mem (mem_stairL.2 ⟨g', a2, a4, rfl⟩ : (⟨(g' : Int), A g'⟩ : Stp) ∈ stairL A 200)
      have := hall k hk
      rw [hke] at this
      simp only at this
      omega
end Go.Proofs.Ytcklifkbodmoaaa.M
namespace Go.Proofs.Ytcklifkbodmoaaa.M
open Go.RowKit Go.Proofs.Ytcklifkbodmoaaa.P Go.Proofs.YtcklifkbodmoaaaV.PrintWords Go.Proofs.YtcklifkbodmoaaaV.PrintMore
variable {s ch src tgt : Int} {l : List Cn}
def arrT (s ch : Int) (l : List Cn) (src tgt : Int) (i : Nat) : Int := if i ≤ 199 then rd (planAll s ch l src (i : Int)) tgt else 99999
structure Put (s ch : Int) (l : List Cn) (src tgt : Int) : Prop where
  ok : planOkB s ch l = true
  src_ : 0 ≤ src ∧ src < s
  to_ : 0 ≤ tgt ∧ tgt < s
  ne : tgt ≠ src
theorem Put.in_ (h : Put s ch l src tgt) {t : Int} (ht : 0 ≤ t ∧ t ≤ 199) : planInB s ch l src t = true := by
  have ok := (planOk_ok h.ok).1
  have := ok.s1
  have := ok.s8
  have h1 := h.src_
  simp only [planInB, Bool.and_eq_true, betB_iff]
  refine ⟨⟨h.ok, ?_⟩, ht⟩
  rw [w64 (by omega)]
  omega
theorem Put.arr (h : Put s ch l src tgt) {t : Int} (ht : 0 ≤ t ∧ t ≤ 199) : IsArr l s src t (fun k => ∃ n, Ont l ch src t n k) (planAll s ch l src t) := planAll_arr (h.in_ ht)
theorem Put.bnd (h : Put s ch l src tgt) (i : Nat) (hi : i ≤ 199) : arrT s ch l src tgt i = 99999 ∨ ((i : Int) ≤ arrT s ch l src tgt i ∧ arrT s ch l src tgt i ≤ 199) := by
  obtain ⟨ok, hch⟩ := planOk_ok h.ok
  unfold arrT
  rw [if_pos hi]
  rcases (h.arr (t := (i : Int)) (by omega)).is_ tgt h.to_.1 h.to_.2 h.ne with h1 | ⟨k, ⟨n, hk⟩, h1, h2⟩
  · exact .inl h1
  · right
    have h3 := hk.late ok hch
    have h4 := ok.at_ k hk.lt
    omega
theorem IsArr.leT {s ch src t0 t1 : Int} {l : List Cn} (ok : Ok s ch l) {P Q : Nat → Prop} {D E : List Int} (hP : ∀ k, P k → k < l.length) (h : IsArr l s src t0 P D) (g : IsArr l s src t1 Q E) (ht : t0 ≤ t1) (e : ∀ k, Q k → P k) {v : Int} (h0 : 0 ≤ v) (h1 : v < s) : rd D v ≤ rd E v := by
  by_cases hs : v = src
  · subst hs
    rw [h.src_, g.src_]
    exact ht
  · rcases g.is_ v h0 h1 hs with hf | ⟨k, hk, rfl, e1⟩
    · rw [hf]
      rcases h.is_ v h0 h1 hs with hf' | ⟨k, hk, _, e2⟩
      · omega
      · have := ok.at_ k (hP k hk)
        omega
    · rw [e1]
      exact h.low k (e k hk) hs
theorem Put.table (h : Put s ch l src tgt) : Arr (arrT s ch l src tgt) := by
  obtain ⟨ok, hch⟩ := planOk_ok h.ok
  refine ⟨fun i j hij hj => ?_, by unfold arrT; rw [if_neg (by omega)], fun i hi => h.bnd i hi⟩
  by_cases hj2 : j ≤ 199
  · unfold arrT
    rw [if_pos (by omega), if_pos hj2]
    exact (h.arr (t := (i : Int)) (by omega)).leT ok (fun k ⟨n, hk⟩ => hk.lt) (h.arr (t := (j : Int)) (by omega)) (by omega) (fun k ⟨n, hk⟩ => ⟨n, hk.weak (Int.le_refl _) (by omega)⟩) h.to_.1 h.to_.2
  · have e : arrT s ch l src tgt j = 99999 := by unfold arrT; rw [if_neg hj2]
    rw [e]
    by_cases hi2 : i ≤ 199
    · have := h.bnd i hi2
      omega
    · unfold arrT
      rw [if_neg hi2]
      exact Int.le_refl _
theorem Ont.first {t0 : Int} {n k : Nat} (h : Ont l ch src t0 n k) : ∃ b, b < l.length ∧ (cn l b).f0 = src ∧ t0 ≤ (cn l b).f2 ∧ Ont l ch src ((cn l b).f2) n k := by
  induction h with
  | base hn hk hs ht => exact ⟨_, hk, hs, ht, .base hn hk hs (Int.le_refl _)⟩
  | ride hk hb _ ih =>
    obtain ⟨b, h1, h2, h3, h4⟩ := ih
    exact ⟨b, h1, h2, h3, .ride hk hb h4⟩
  | step hk hi ht hc _ ih =>
    obtain ⟨b, h1, h2, h3, h4⟩ := ih
    exact ⟨b, h1, h2, h3, .step hk hi ht hc h4⟩
theorem Put.board (h : Put s ch l src tgt) (i : Nat) (hi : i ≤ 199) (hf : arrT s ch l src tgt i ≠ 99999) : ∃ b, b < l.length ∧ (cn l b).f0 = src ∧ (i : Int) ≤ (cn l b).f2 ∧ arrT s ch l src tgt (cn l b).f2.toNat = arrT s ch l src tgt i := by
  obtain ⟨ok, hch⟩ := planOk_ok h.ok
  have e : arrT s ch l src tgt i = rd (planAll s ch l src (i : Int)) tgt := by unfold arrT; rw [if_pos hi]
  rw [e] at hf
  rcases (h.arr (t := (i : Int)) (by omega)).is_ tgt h.to_.1 h.to_.2 h.ne with h1 | ⟨k, ⟨n, hk⟩, h1, h2⟩
  · exact absurd h1 hf
  · obtain ⟨b, b1, b2, b3, b4⟩ := hk.first
    have h4 := ok.at_ b b1
    have h5 : ((cn l b).f2.toNat : Int) = (cn l b).f2 := by omega
    refine ⟨b, b1, b2, b3, ?_⟩
    have m := h.table.mono i (cn l b).f2.toNat (by omega) (by omega)
    have e2 : arrT s ch l src tgt (cn l b).f2.toNat = rd (planAll s ch l src (cn l b).f2) tgt := by unfold arrT; rw [if_pos (by omega), h5]
    have low := (h.arr (t := (cn l b).f2) (by omega)).low k ⟨n, b4⟩ (by rw [h1]; exact h.ne)
    rw [h1] at low
    omega
/-- not many connections of a timetable leave from one stop -/
def eF (l : List Cn) (src : Int) : Nat → Nat → Nat
  | 0, _ => 0
  | i + 1, u => if (cn l i).f4 = (u : Int) then (if (cn l i).f0 = src then 1 else 0) else eF l src i u
def nF (l : List Cn) (src : Int) : Nat → Nat
  | 0 => 0
  | i + 1 => nF l src i + (if (cn l i).f0 = src then 1 else 0)
theorem eF_le (l : List Cn) (src : Int) (u : Nat) : ∀ i, eF l src i u ≤ 1
  | 0 => by simp [eF]
  | i + 1 => by
    unfold eF
    split
    · split <;> omega
    · exact eF_le l src u i
theorem eF_last (l : List Cn) (src : Int) (u : Nat) : ∀ i, eF l src i u = 1 → ∃ k, k < i ∧ (cn l k).f4 = (u : Int) ∧ (cn l k).f0 = src ∧ ∀ j, k < j → j < i → (cn l j).f4 ≠ (u : Int)
  | 0, h => by simp [eF] at h
  | i + 1, h => by
    unfold eF at h
    split at h
    · rename_i h4
      split at h
      · rename_i h0
        exact ⟨i, by omega, h4, h0, fun j h1 h2 => by omega⟩
      · cases h
    · rename_i h4
      obtain ⟨k, k1, k2, k3, k4⟩ := eF_last l src u i h
      refine ⟨k, by omega, k2, k3, fun j h1 h2 => ?_⟩
      by_cases hj : j = i
      · rw [hj]; exact h4
      · exact k4 j h1 (by omega)
theorem befAt_find (l : List Cn) (k : Nat) {i : Nat} (h4 : (cn l i).f4 = (cn l k).f4) : ∀ {j : Nat}, i < j → (∀ m, i < m → m < j → (cn l m).f4 ≠ (cn l k).f4) → befAt l k j = some i
  | 0, h, _ => by omega
  | j + 1, h, hm => by
    unfold befAt
    by_cases hj : i = j
    · subst hj
      rw [if_pos h4]
    · rw [if_neg (hm j (by omega) (by omega))]
      exact befAt_find l k h4 (by omega) (fun m h1 h2 => hm m h1 (by omega))
theorem nF_le (ok : Ok s ch l) (hch : Chain l) (src : Int) : ∀ i, i ≤ l.length → 2 * nF l src i ≤ i + (eF l src i 0 + eF l src i 1 + eF l src i 2 + eF l src i 3 + eF l src i 4 + eF l src i 5)
  | 0, _ => by simp [nF]
  | i + 1, hi => by
    have ih := nF_le ok hch src i (by omega)
    have h4 := ok.at_ i (by omega)
    have hne : (cn l i).f0 = src → ∀ u : Nat, (cn l i).f4 = (u : Int) → eF l src i u = 0 := by
      intro h0 u hu
      have h1 := eF_le l src u i
      rcases Nat.lt_or_ge (eF l src i u) 1 with h | h
      · omega
      · obtain ⟨k, k1, k2, k3, k4⟩ := eF_last l src u i (by omega)
        have hb : bef l i = some k := befAt_find l i (by rw [k2, hu]) k1 (fun m h1 h2 => by rw [hu]; exact k4 m h1 h2)
        have h5 := (hch i k (by omega) hb).1
        have h6 := ok.at_ k (by omega)
        omega
    have e0 := eF_le l src 0 i
    have e1 := eF_le l src 1 i
    have e2 := eF_le l src 2 i
    have e3 := eF_le l src 3 i
    have e4 := eF_le l src 4 i
    have e5 := eF_le l src 5 i
    have hu : (cn l i).f4 = ((0 : Nat) : Int) ∨ (cn l i).f4 = ((1 : Nat) : Int) ∨ (cn l i).f4 = ((2 : Nat) : Int) ∨ (cn l i).f4 = ((3 : Nat) : Int) ∨ (cn l i).f4 = ((4 : Nat) : Int) ∨ (cn l i).f4 = ((5 : Nat) : Int) := by omega
    unfold nF eF
    by_cases h0 : (cn l i).f0 = src
    · rcases hu with h | h | h | h | h | h <;>
      · have hz := hne h0 _ h
        rw [if_pos h0, h]
        simp
        omega
    · rcases hu with h | h | h | h | h | h <;>
      · rw [if_neg h0, h]
        simp
        omega
theorem nF_few (ok : Ok s ch l) (hch : Chain l) (src : Int) (i : Nat) (hi : i ≤ l.length) : nF l src i ≤ 11 := by
  have h := nF_le ok hch src i hi
  have e0 := eF_le l src 0 i
  have e1 := eF_le l src 1 i
  have e2 := eF_le l src 2 i
  have e3 := eF_le l src 3 i
  have e4 := eF_le l src 4 i
  have e5 := eF_le l src 5 i
  have := ok.len
  omega
/-- the steps that the program gathers -/
def gat (s ch : Int) (l : List Cn) (src tgt : Int) : Nat → List Stp
  | 0 => []
  | i + 1 => if (cn l i).f0 = src ∧ arrT s ch l src tgt (cn l i).f2.toNat ≠ 99999 then gat s ch l src tgt i ++ [⟨(cn l i).f2, arrT s ch l src tgt (cn l i).f2.toNat⟩] else gat s ch l src tgt i
theorem gat_len (s ch : Int) (l : List Cn) (src tgt : Int) : ∀ i, (gat s ch l src tgt i).length ≤ nF l src i
  | 0 => by simp [gat]
  | i + 1 => by
    have ih := gat_len s ch l src tgt i
    unfold gat nF
    split
    · rename_i h
      rw [List.length_append, List.length_singleton, if_pos h.1]
      omega
    · split <;> omega
theorem mem_gat {s ch : Int} {l : List Cn} {src tgt : Int} {x : Stp} : ∀ {i}, x ∈ gat s ch l src tgt i ↔ ∃ k, k < i ∧ (cn l k).f0 = src ∧ arrT s ch l src tgt (cn l k).f2.toNat ≠ 99999 ∧ x = ⟨(cn l k).f2, arrT s ch l src tgt (cn l k).f2.toNat⟩
  | 0 => by simp [gat]
  | i + 1 => by
    unfold gat
    have ih := mem_gat (s := s) (ch := ch) (l := l) (src := src) (tgt := tgt) (x := x) (i := i)
    constructor
    · intro h
      split at h
      · rename_i hc
        rcases List.mem_append.1 h with h | h
        · obtain ⟨k, k1, k2⟩ := ih.1 h
          exact ⟨k, by omega, k2⟩
        · obtain rfl := List.mem_singleton.1 h
          exact ⟨i, by omega, hc.1, hc.2, rfl⟩
      · obtain ⟨k, k1, k2⟩ := ih.1 h
        exact ⟨k, by omega, k2⟩
    · rintro ⟨k, k1, k2, k3, k4⟩
      by_cases hk : k = i
      · subst hk
        rw [if_pos ⟨k2, k3⟩, k4]
        simp
      · have := ih.2 ⟨k, by omega, k2, k3, k4⟩
        split
        · exact List.mem_append_left _ this
        · exact this
theorem gat_stair (h : Put s ch l src tgt) : (keepF (sortS (gat s ch l src tgt l.length))).reverse = stairL (arrT s ch l src tgt) 200 := by
  obtain ⟨ok, hch⟩ := planOk_ok h.ok
  refine keep_stair h.table (fun x hx => ?_) (fun at_ hat hf => ?_)
  · obtain ⟨k, k1, k2, k3, rfl⟩ := mem_gat.1 hx
    have h4 := ok.at_ k k1
    refine ⟨(cn l k).f2.toNat, by omega, k3, ?_⟩
    rw [show (((cn l k).f2.toNat : Nat) : Int) = (cn l k).f2 by omega]
  · obtain ⟨b, b1, b2, b3, b4⟩ := h.board at_ (by omega) hf
    have h4 := ok.at_ b b1
    refine ⟨(cn l b).f2.toNat, by omega, by omega, b4, mem_gat.2 ⟨b, b1, b2, by rw [b4]; exact hf, ?_⟩⟩
    rw [show (((cn l b).f2.toNat : Nat) : Int) = (cn l b).f2 by omega]
end Go.Proofs.Ytcklifkbodmoaaa.M
namespace Go.Proofs.Ytcklifkbodmoaaa.M
open Go.RowKit Go.Proofs.Ytcklifkbodmoaaa.P Go.Proofs.YtcklifkbodmoaaaV.PrintWords Go.Proofs.YtcklifkbodmoaaaV.PrintMore
variable {s ch src tgt : Int} {l : List Cn}
theorem conn_arr {t : Int} (h : planInB s ch l src t = true) : ∃ R, Ev (fun m => impl_Plan_rides.f m s ch l src t) R ∧ Ev (fun m => impl_Plan_arrivals.f m s ch l R src t 16) (planAll s ch l src t) := by
  obtain ⟨ok, hch, hs, ht⟩ := planIn_all h
  obtain ⟨R, hR, hI, hT⟩ := rides_ev (src := src) (t0 := t) ok
  refine ⟨R, hR, (arrivals_ev ok hs hI.len 16).eq ?_⟩
  unfold planAll
  rw [if_pos h]
  exact arrL_eq ok hch hs hI hT (most := 16) (Nat.le_refl _)
theorem all6_planAll {t : Int} (h : planInB s ch l src t = true) : Ev (fun m => spec_l6All.f m s ch l src t) (planAll s ch l src t) := by
  obtain ⟨ok, hch, hs, ht⟩ := planIn_all h
  refine (l6All_ev ok hch hs).eq ?_
  unfold planAll
  rw [if_pos h]
  have := ok.s8
  exact all6_eq ok hch ht.2 hs 16 (.inl (by omega))
theorem profile_ev (L : List Stp) (hL : L.length ≤ 12) : Ev (fun k => impl_profile.f k L) (keepF (sortS L)).reverse := by
  have hSl := sortS_len L
  have e1 : slices_Clone_Step.f L = some L := by unfold slices_Clone_Step.f; rw [if_pos (by omega)]
  have e2 : sort_profile.f L = some (sortS L) := by unfold sort_profile.f; rw [if_pos hL]
  unfold impl_profile.f
  rw [e1]
  simp only [Option.bind_some]
  rw [e2]
  simp only [Option.bind_some]
  generalize sortS L = S at hSl
  have hP := downto (P := fun i => Ev (fun k => impl_profile.l0 k (keepF (S.take i)) S (L.length : Int) (i : Int)) (keepF S).reverse) (n := S.length) ?_ ?_
  · exact hP
  · rw [List.take_length]
    refine Ev.step (G := fun _ => some (keepF S).reverse) (fun k => ?_) (Ev.ret _)
    simp only [impl_profile.l0]
    rw [if_neg (by omega)]
    unfold reverse_stp.f impl_Step_113.f
    rfl
  · intro i hi hnext
    rw [keepF_snoc S i hi] at hnext
    have hlen := keepF_len (S.take i)
    rw [List.length_take] at hlen
    generalize keepF (S.take i) = o at hnext hlen
    refine Ev.step (fun k => ?_) hnext
    simp only [impl_profile.l0]
    rw [if_pos (by omega), if_pos (by omega), if_pos (by omega), rdSt_at S i hi, w64s (by omega)]
    unfold kp
    by_cases h0 : o.length = 0
    · rw [if_pos (by omega), if_pos (by omega), if_pos (.inl h0)]
    · rw [if_neg (by omega), w64 (n := (o.length : Int) - 1) (by omega), if_pos (by omega), if_pos (by omega)]
      by_cases h1 : S[i].f1 < (rd_T66 o ((o.length : Int) - 1)).f1
      · rw [if_pos h1, if_pos (by omega), if_pos (.inr h1)]
      · rw [if_neg h1, if_neg (by
          rintro (h2 | h2)
          · exact h0 h2
          · exact h1 h2)]
theorem implStairOf_ev (L : List Stp) (hL : L.length ≤ 12) (hv : ∀ x ∈ L, validS x = true) : Ev (fun k => impl_StairOf.f k L) ((keepF (sortS L)).reverse, true) := by
  unfold impl_StairOf.f contains_StairOf1.f
  have e : (L.any fun x => !validS x) = false := by
    rw [List.any_eq_false]
    intro x hx
    rw [hv x hx]
    simp
  rw [e]
  simp only [Option.bind_some]
  refine Ev.neg (by simp) (Ev.bind (profile_ev L hL) (Ev.neg ?_ (Ev.ret _)))
  have h1 := keepF_len (sortS L)
  have h2 := sortS_len L
  rw [List.length_reverse]
  omega
def stairB (s ch : Int) (l : List Cn) (src tgt : Int) : Bool := planOkB s ch l && betB src 0 (wrap64 (s - 1)) && betB tgt 0 (wrap64 (s - 1)) && !(src == tgt)
def planStair (s ch : Int) (l : List Cn) (src tgt : Int) : List Stp × Bool := if stairB s ch l src tgt = true then (stairL (arrT s ch l src tgt) 200, true) else ([], false)
theorem stairB_put (h : stairB s ch l src tgt = true) : Put s ch l src tgt := by
  simp only [stairB, Bool.and_eq_true, Bool.not_eq_true', beq_eq_false_iff_ne, ne_eq] at h
  obtain ⟨⟨⟨h0, h1⟩, h2⟩, h3⟩ := h
  exact ⟨h0, planIn_src h0 h1, planIn_src h0 h2, fun e => h3 e.symm⟩
theorem stair_short (h : Put s ch l src tgt) : (stairL (arrT s ch l src tgt) 200).length ≤ 11 := by
  obtain ⟨ok, hch⟩ := planOk_ok h.ok
  rw [← gat_stair h, List.length_reverse]
  have h1 := keepF_len (sortS (gat s ch l src tgt l.length))
  have h2 := sortS_len (gat s ch l src tgt l.length)
  have h3 := gat_len s ch l src tgt l.length
  have h4 := nF_few ok hch src l.length (Nat.le_refl _)
  omega
theorem planStair_len (s ch : Int) (l : List Cn) (src tgt : Int) : (planStair s ch l src tgt).1.length ≤ 11 := by
  unfold planStair
  split
  · rename_i h
    exact stair_short (stairB_put h)
  · simp
theorem impl_stair_loop (h : Put s ch l src tgt) : Ev (fun k => impl_PlanStair.l0 k src tgt [] l (l.length : Int) 0 s ch l) (stairL (arrT s ch l src tgt) 200, true) := by
  obtain ⟨ok, hch⟩ := planOk_ok h.ok
  have hP := downto (P := fun i => Ev (fun k => impl_PlanStair.l0 k src tgt (gat s ch l src tgt i) l (l.length : Int) (i : Int) s ch l) (stairL (arrT s ch l src tgt) 200, true)) (n := l.length) ?_ ?_
  · exact hP
  · have h3 := gat_len s ch l src tgt l.length
    have h4 := nF_few ok hch src l.length (Nat.le_refl _)
    refine Ev.step (fun k => by simp only [impl_PlanStair.l0]; rw [if_neg (by omega)]) (Ev.bind (implStairOf_ev (gat s ch l src tgt l.length) (by omega) (fun x hx => ?_)) ?_)
    · obtain ⟨k, k1, k2, k3, rfl⟩ := mem_gat.1 hx
      have h5 := ok.at_ k k1
      have h6 := h.bnd (cn l k).f2.toNat (by omega)
      simp only [validS, Bool.and_eq_true, betB_iff]
      omega
    · rw [gat_stair h]
      exact Ev.ret _
  · intro i hi hnext
    have h5 := ok.at_ i hi
    have hlen := ok.len
    have h3 := gat_len s ch l src tgt i
    have h4 := nF_few ok hch src i (by omega)
    unfold gat at hnext
    by_cases h0 : (cn l i).f0 = src
    · have hin := h.in_ (t := (cn l i).f2) (by omega)
      obtain ⟨R, hR, hA⟩ := conn_arr hin
      have hl := planAll_len hin
      have eA : arrT s ch l src tgt (cn l i).f2.toNat = rd (planAll s ch l src (cn l i).f2) tgt := by unfold arrT; rw [if_pos (by omega), show (((cn l i).f2.toNat : Nat) : Int) = (cn l i).f2 by omega]
      have ht := h.to_
      refine Ev.step (fun k => by simp only [impl_PlanStair.l0]; rw [if_pos (by omega), if_pos (by omega), if_pos (by omega), rdT_cn, if_pos h0, w64s (by omega)]) (Ev.bind hR (Ev.bind hA ?_))
      refine Ev.pos (by omega) (Ev.pos (by omega) ?_)
      by_cases hf : rd (planAll s ch l src (cn l i).f2) tgt = 99999
      · rw [if_neg (by rw [eA]; exact fun h9 => h9.2 hf)] at hnext
        exact Ev.pos hf hnext
      · rw [if_pos ⟨h0, by rw [eA]; exact hf⟩, eA] at hnext
        exact Ev.neg hf (Ev.pos (by omega) hnext)
    · rw [if_neg (fun h9 => h0 h9.1)] at hnext
      refine Ev.step (fun k => ?_) hnext
      simp only [impl_PlanStair.l0]
      rw [if_pos (by omega), if_pos (by omega), if_pos (by omega), rdT_cn, if_neg h0, w64s (by omega)]
theorem impl_PlanStair_ev (s ch : Int) (l : List Cn) (src tgt : Int) (hl : l.length ≤ 1048576) : Ev (fun k => impl_PlanStair.f k s ch l src tgt) (planStair s ch l src tgt) := by
  have stop : Ev (fun k => impl_PlanStair.j0 k src tgt true s ch l) ([], false) := Ev.step (G := fun _ => some ([], false)) (fun k => by simp [impl_PlanStair.j0]) (Ev.ret _)
  have off : stairB s ch l src tgt = false → planStair s ch l src tgt = ([], false) := fun e => by unfold planStair; rw [e, if_neg (by simp)]
  unfold impl_PlanStair.f
  refine Ev.bind (planOk_ev s ch l hl) ?_
  cases h0 : planOkB s ch l with
  | false => exact Ev.neg (by simp) (stop.eq (off (by simp [stairB, h0])).symm)
  | true =>
  refine Ev.pos rfl (Ev.bind (stop_ev _ _ _ _) ?_)
  cases h1 : betB src 0 (wrap64 (s - 1)) with
  | false => exact Ev.neg (by simp) (stop.eq (off (by simp [stairB, h1])).symm)
  | true =>
  refine Ev.pos rfl (Ev.bind (stop_ev _ _ _ _) ?_)
  cases h2 : betB tgt 0 (wrap64 (s - 1)) with
  | false => exact Ev.neg (by simp) (stop.eq (off (by simp [stairB, h2])).symm)
  | true =>
  refine Ev.pos rfl ?_
  cases h3 : (src == tgt) with
  | true => exact stop.eq (off (by simp [stairB, h3])).symm
  | false =>
    have hb : stairB s ch l src tgt = true := by unfold stairB; rw [h0, h1, h2, h3]; rfl
    have e : planStair s ch l src tgt = (stairL (arrT s ch l src tgt) 200, true) := by unfold planStair; rw [if_pos hb]
    rw [e]
    exact Ev.step (fun k => by simp only [impl_PlanStair.j0]; rfl) (Ev.neg (by simp) (impl_stair_loop (stairB_put hb)))
/-- a stair as it should be -/
structure GoodS (T : List Stp) : Prop where
  asc : T.Pairwise fun a b => a.f0 < b.f0 ∧ a.f1 < b.f1
  val : ∀ x ∈ T, 0 ≤ x.f0 ∧ x.f0 ≤ x.f1 ∧ x.f1 ≤ 199
theorem stair_good {A : Nat → Int} (hA : Arr A) : GoodS (stairL A 200) := ⟨stairL_asc hA 200 (Nat.le_refl _), fun x hx => stairL_ok hA hx⟩
theorem l5Ok_ev {T : List Stp} (h : GoodS T) (hl : T.length ≤ 1000) : Ev (fun k => spec_l5Ok.f k T) (decide ((T.length : Int) ≤ 12)) := by
  refine downto (P := fun i => Ev (fun k => spec_l5Ok.l0 k T (i : Int)) (decide ((T.length : Int) ≤ 12))) (n := T.length) ?_ ?_
  · exact Ev.step (fun k => by simp only [spec_l5Ok.l0]; rw [if_neg (by omega)]) (Ev.ret _)
  · intro i hi hnext
    have hv := h.val T[i] (List.getElem_mem hi)
    have b1 : betB T[i].f0 0 199 = true := betB_iff.2 (by omega)
    have b2 : betB T[i].f1 T[i].f0 199 = true := betB_iff.2 (by omega)
    have g1 := l1In_ev T[i].f0 0 199
    have g2 := l1In_ev T[i].f1 T[i].f0 199
    rw [b1] at g1
    rw [b2] at g2
    refine Ev.step (fun k => by simp only [spec_l5Ok.l0]; rw [if_pos (by omega), if_pos (by omega), rdSt_at T i hi, w64s (by omega)]) (Ev.bind g1 (Ev.pos rfl (Ev.bind g2 (Ev.pos rfl ?_))))
    by_cases h0 : (i : Int) > 0
    · obtain ⟨j, rfl⟩ : ∃ j, i = j + 1 := ⟨i - 1, by omega⟩
      have hp := List.pairwise_iff_getElem.1 h.asc j (j + 1) (by omega) hi (by omega)
      refine Ev.pos h0 ?_
      rw [show wrap64 (((j + 1 : Nat) : Int) - 1) = ((j : Nat) : Int) by rw [w64 (by omega)]; omega, rdSt_at T j (by omega)]
      exact Ev.pos (by omega) (Ev.pos (by omega) (Ev.neg (by omega) (Ev.neg (by omega) hnext)))
    · exact Ev.neg h0 hnext
theorem stairOk_ev {T : List Stp} (h : GoodS T) (hl : T.length ≤ 1000) : Ev (fun k => impl_StairOk.f k T) (decide ((T.length : Int) ≤ 12)) := by
  refine downto (P := fun i => Ev (fun k => impl_StairOk.l0 k T T (T.length : Int) (i : Int)) (decide ((T.length : Int) ≤ 12))) (n := T.length) ?_ ?_
  · exact Ev.step (fun k => by simp only [impl_StairOk.l0]; rw [if_neg (by omega)]) (Ev.ret _)
  · intro i hi hnext
    have hv := h.val T[i] (List.getElem_mem hi)
    have b1 : betB T[i].f0 0 199 = true := betB_iff.2 (by omega)
    have b2 : betB T[i].f1 T[i].f0 199 = true := betB_iff.2 (by omega)
    have g := valid_ev T[i].f0 T[i].f1
    rw [b1, b2] at g
    refine Ev.step (fun k => by simp only [impl_StairOk.l0]; rw [if_pos (by omega), if_pos (by omega), if_pos (by omega), rdSt_at T i hi, w64s (by omega)]) (Ev.bind g (Ev.pos rfl ?_))
    by_cases h0 : (i : Int) > 0
    · obtain ⟨j, rfl⟩ : ∃ j, i = j + 1 := ⟨i - 1, by omega⟩
      have hp := List.pairwise_iff_getElem.1 h.asc j (j + 1) (by omega) hi (by omega)
      refine Ev.pos h0 ?_
      rw [show wrap64 (((j + 1 : Nat) : Int) - 1) = ((j : Nat) : Int) by rw [w64 (by omega)]; omega, rdSt_at T j (by omega)]
      exact Ev.pos (by omega) (Ev.pos (by omega) (Ev.neg (by omega) (Ev.neg (by omega) hnext)))
    · exact Ev.neg h0 hnext
/-- the steps that the reference gathers -/
def spG (A : Nat → Int) : Nat → List Stp
  | 0 => []
  | i + 1 => if A i < 99999 then spG A i ++ [⟨(i : Int), A i⟩] else spG A i
theorem spG_len (A : Nat → Int) : ∀ i, (spG A i).length ≤ i
  | 0 => by simp [spG]
  | i + 1 => by
    have := spG_len A i
    unfold spG
    split <;> simp <;> omega
theorem mem_spG {A : Nat → Int} {x : Stp} : ∀ {i}, x ∈ spG A i ↔ ∃ g, g < i ∧ A g < 99999 ∧ x = ⟨(g : Int), A g⟩
  | 0 => by simp [spG]
  | i + 1 => by
    unfold spG
    have ih := mem_spG (A := A) (x := x) (i := i)
    constructor
    · intro h
      split at h
      · rename_i hc
        rcases List.mem_append.1 h with h | h
        · obtain ⟨k, k1, k2⟩ := ih.1 h
          exact ⟨k, by omega, k2⟩
        · obtain rfl := List.mem_singleton.1 h
          exact ⟨i, by omega, hc, rfl⟩
      · obtain ⟨k, k1, k2⟩ := ih.1 h
        exact ⟨k, by omega, k2⟩
    · rintro ⟨k, k1, k2, k3⟩
      by_cases hk : k = i
      · subst hk
        rw [if_pos k2, k3]
        simp
      · have := ih.2 ⟨k, by omega, k2, k3⟩
        split
        · exact List.mem_append_left _ this
        · exact this
def best (at_ : Int) (L : List Stp) : Int := L.foldl (fun b x => if x.f0 ≥ at_ ∧ x.f1 < b then x.f1 else b) 99999
theorem best_snoc (at_ : Int) (L : List Stp) (i : Nat) (hi : i < L.length) : best at_ (L.take (i + 1)) = if L[i].f0 ≥ at_ ∧ L[i].f1 < best at_ (L.take i) then L[i].f1 else best at_ (L.take i) := by
  unfold best
  rw [List.take_add_one, List.getElem?_eq_getElem hi, List.foldl_append]
  rfl
theorem best_spec (at_ : Int) (L : List Stp) : best at_ L ≤ 99999 ∧ (best at_ L = 99999 ∨ ∃ x ∈ L, x.f0 ≥ at_ ∧ x.f1 = best at_ L) ∧ ∀ x ∈ L, x.f0 ≥ at_ → best at_ L ≤ x.f1 := by
  have key : ∀ i, i ≤ L.length → best at_ (L.take i) ≤ 99999 ∧ (best at_ (L.take i) = 99999 ∨ ∃ x ∈ L, x.f0 ≥ at_ ∧ x.f1 = best at_ (L.take i)) ∧ ∀ x ∈ L.take i, x.f0 ≥ at_ → best at_ (L.take i) ≤ x.f1 := by
    intro i
    induction i with
    | zero => intro _; exact ⟨by simp [best], .inl (by simp [best]), by simp⟩
    | succ i ih =>
      intro hi
      obtain ⟨h1, h2, h3⟩ := ih (by omega)
      have e : L.take (i + 1) = L.take i ++ [L[i]] := by rw [List.take_add_one, List.getElem?_eq_getElem hi]; rfl
      rw [best_snoc at_ L i hi]
      split
      · rename_i hc
        refine ⟨by omega, .inr ⟨L[i], List.getElem_mem hi, hc.1, rfl⟩, fun x hx hge => ?_⟩
        rw [e] at hx
        rcases List.mem_append.1 hx with hx | hx
        · have := h3 x hx hge
          omega
        · obtain rfl := List.mem_singleton.1 hx
          exact Int.le_refl _
      · rename_i hc
        refine ⟨h1, h2, fun x hx hge => ?_⟩
        rw [e] at hx
        rcases List.mem_append.1 hx with hx | hx
        · exact h3 x hx hge
        · obtain rfl := List.mem_singleton.1 hx
          rcases Int.lt_or_le L[i].f1 (best at_ (L.take i)) with h9 | h9
          · exact absurd ⟨hge, h9⟩ hc
          · exact h9
  have := key L.length (Nat.le_refl _)
  rwa [List.take_length] at this
theorem best_table {A : Nat → Int} (hA : Arr A) (at_ : Nat) (h : at_ ≤ 199) : best (at_ : Int) (spG A 200) = A at_ := by
  obtain ⟨h1, h2, h3⟩ := best_spec (at_ : Int) (spG A 200)
  have hb := hA.bnd at_ h
  have hlow : ∀ x ∈ spG A 200, x.f0 ≥ (at_ : Int) → A at_ ≤ x.f1 := by
    intro x hx hge
    obtain ⟨g, g1, g2, rfl⟩ := mem_spG.1 hx
    exact hA.mono at_ g (by simp only at hge; omega) (by omega)
  by_cases hf : A at_ = 99999
  · rcases h2 with h2 | ⟨x, hx, hge, he⟩
    · omega
    · have := hlow x hx hge
      omega
  · have hm := h3 ⟨(at_ : Int), A at_⟩ (mem_spG.2 ⟨at_, by omega, by omega, rfl⟩) (by simp only; omega)
    simp only at hm
    rcases h2 with h2 | ⟨x, hx, hge, he⟩
    · omega
    · have := hlow x hx hge
      omega
/-- what the reference has laid out so far -/
def stG (A : Nat → Int) : Nat → List Stp
  | 0 => []
  | i + 1 => stairL A i ++ [⟨(i : Int), A i⟩]
theorem stG_len (A : Nat → Int) (i : Nat) : (stG A i).length ≤ i := by
  cases i with
  | zero => simp [stG]
  | succ i =>
    have := stairL_len A i
    simp [stG]
    omega
theorem stairL_rest {A : Nat → Int} (hA : Arr A) {at_ : Nat} (hf : A at_ = 99999) : ∀ d, at_ + d ≤ 200 → stairL A (at_ + d) = stairL A at_
  | 0, _ => rfl
  | d + 1, h => by
    have h1 := hA.mono at_ (at_ + d) (by omega) (by omega)
    have h2 : A (at_ + d) = 99999 := by
      have h3 := hA.mono (at_ + d) 200 (by omega) (by omega)
      have := hA.top
      omega
    rw [show at_ + (d + 1) = (at_ + d) + 1 by omega, stairL_succ, if_neg (by rw [stairC_iff]; exact fun h9 => h9.1 h2), List.append_nil]
    exact stairL_rest hA hf d (by omega)
theorem stG_end {A : Nat → Int} (hA : Arr A) {at_ : Nat} (h : at_ ≤ 200) (hf : A at_ = 99999) (hb : at_ = 0 ∨ A (at_ - 1) ≠ 99999) : stG A at_ = stairL A 200 := by
  have e := stairL_rest hA hf (200 - at_) (by omega)
  rw [show at_ + (200 - at_) = 200 by omega] at e
  rw [e]
  cases at_ with
  | zero => rfl
  | succ i =>
    have hbi : A i ≠ 99999 := hb.resolve_left (by omega)
    rw [stairL_succ, if_pos (stairC_iff.2 ⟨hbi, fun e2 => hbi (e2.symm.trans hf)⟩)]
    rfl
theorem stG_same {A : Nat → Int} {i : Nat} (he : A (i + 1) = A i) : stG A (i + 2) = stairL A i ++ [⟨((i + 1 : Nat) : Int), A (i + 1)⟩] := by
  show stairL A (i + 1) ++ _ = _
  rw [stairL_succ, if_neg (by rw [stairC_iff]; exact fun h9 => h9.2 he), List.append_nil]
theorem stG_other {A : Nat → Int} {i : Nat} (hf : A i ≠ 99999) (he : A (i + 1) ≠ A i) : stG A (i + 2) = stG A (i + 1) ++ [⟨((i + 1 : Nat) : Int), A (i + 1)⟩] := by
  show stairL A (i + 1) ++ _ = _
  rw [stairL_succ, if_pos (stairC_iff.2 ⟨hf, he⟩)]
  rfl
theorem tidy_ev {A : Nat → Int} (hA : Arr A) : Ev (fun k => spec_l5Tidy.f k (spG A 200)) (stairL A 200) := by
  have hl := spG_len A 200
  have inner : ∀ (at_ : Nat) (h : at_ ≤ 199) (O : List Stp), Ev (fun k => (if A at_ = 99999 then (some O) else (if (O.length : Int) > 0 then (if 0 ≤ (wrap64 ((O.length : Int) - 1)) then (if (wrap64 ((O.length : Int) - 1)) < (O.length : Int) then (if ((rd_T66 O (wrap64 ((O.length : Int) - 1))).f1) = A at_ then (spec_l5Tidy.l0 k (spG A 200) (O.set ((wrap64 ((O.length : Int) - 1)) : Int).toNat (⟨(at_ : Int), (rd_T66 O (wrap64 ((O.length : Int) - 1))).f1⟩ : Stp)) (wrap64 ((at_ : Int) + 1))) else (if O.length < 8796093022208 then (spec_l5Tidy.l0 k (spG A 200) (O ++ [(⟨(at_ : Int), A at_⟩ : Stp)]) (wrap64 ((at_ : Int) + 1))) else (none))) else (none)) else (none)) else (if O.length < 8796093022208 then (spec_l5Tidy.l0 k (spG A 200) (O ++ [(⟨(at_ : Int), A at_⟩ : Stp)]) (wrap64 ((at_ : Int) + 1))) else (none))))) (stairL A 200) →
      Ev (fun k => spec_l5Tidy.l1 k (spG A 200) O (at_ : Int) 99999 0) (stairL A 200) := by
    intro at_ h O hend
    refine downto (P := fun i => Ev (fun k => spec_l5Tidy.l1 k (spG A 200) O (at_ : Int) (best (at_ : Int) ((spG A 200).take i)) (i : Int)) (stairL A 200)) (n := (spG A 200).length) ?_ ?_
    · rw [List.take_length, best_table hA at_ h]
      refine Ev.step (fun k => by simp only [spec_l5Tidy.l1]; rw [if_neg (by omega)]) hend
    · intro i hi hnext
      rw [best_snoc (at_ : Int) (spG A 200) i hi] at hnext
      generalize best (at_ : Int) ((spG A 200).take i) = b at hnext
      refine Ev.step (fun k => ?_) hnext
      simp only [spec_l5Tidy.l1]
      rw [if_pos (by omega), if_pos (by omega), rdSt_at _ i hi, w64s (by omega)]
      by_cases h1 : (spG A 200)[i].f0 ≥ (at_ : Int)
      · rw [if_pos h1]
        by_cases h2 : (spG A 200)[i].f1 < b
        · rw [if_pos h2, if_pos ⟨h1, h2⟩]
        · rw [if_neg h2, if_neg (fun h9 => h2 h9.2)]
      · rw [if_neg h1, if_neg (fun h9 => h1 h9.1)]
  have hP := downto (P := fun at_ => (at_ = 0 ∨ A (at_ - 1) ≠ 99999) → Ev (fun k => spec_l5Tidy.l0 k (spG A 200) (stG A at_) (at_ : Int)) (stairL A 200)) (n := 200) ?_ ?_
  · exact hP (.inl rfl)
  · intro hb
    rw [stG_end hA (Nat.le_refl _) hA.top hb]
    exact Ev.step (fun k => by simp only [spec_l5Tidy.l0]; rw [if_neg (by omega)]) (Ev.ret _)
  · intro at_ hat hnext hb
    have hGl := stG_len A at_
    refine Ev.step (fun k => by simp only [spec_l5Tidy.l0]; rw [if_pos (by omega)]) (inner at_ (by omega) (stG A at_) ?_)
    by_cases hf : A at_ = 99999
    · refine Ev.pos hf ((Ev.ret _).eq (stG_end hA (by omega) hf hb))
    · have hn := hnext (.inr (by rw [Nat.add_sub_cancel]; exact hf))
      refine Ev.neg hf ?_
      rw [w64s (by omega)]
      cases at_ with
      | zero =>
        refine Ev.neg (by simp [stG]) (Ev.pos (by simp [stG]) ?_)
        exact hn
      | succ i =>
        have hbi : A i ≠ 99999 := hb.resolve_left (by omega)
        have hO : stG A (i + 1) = stairL A i ++ [⟨(i : Int), A i⟩] := rfl
        have hlast : rd_T66 (stG A (i + 1)) (((stG A (i + 1)).length : Int) - 1) = ⟨(i : Int), A i⟩ := by rw [hO]; exact rd_last _ _
        have hpos : ((stG A (i + 1)).length : Int) = ((stairL A i).length : Int) + 1 := by rw [hO, List.length_append, List.length_singleton]; omega
        have hsl := stairL_len A i
        rw [w64 (n := ((stG A (i + 1)).length : Int) - 1) (by omega), hlast]
        refine Ev.pos (by omega) (Ev.pos (by omega) (Ev.pos (by omega) ?_))
        by_cases he : A (i + 1) = A i
        · refine Ev.pos he.symm ?_
          rw [stG_same he] at hn
          have e9 : ((stG A (i + 1)).set ((((stG A (i + 1)).length : Int) - 1).toNat) (⟨((i + 1 : Nat) : Int), A i⟩ : Stp)) = stairL A i ++ [⟨((i + 1 : Nat) : Int), A (i + 1)⟩] := by
            rw [show (((stG A (i + 1)).length : Int) - 1).toNat = (stairL A i).length by omega, hO, List.set_append_right _ _ (Nat.le_refl _), Nat.sub_self, he]
            rfl
          rw [e9]
          exact hn
        · refine Ev.neg (fun e => he e.symm) (Ev.pos (by omega) ?_)
          rw [stG_other hbi he] at hn
          exact hn
theorem specStairOf_ev {A : Nat → Int} (hA : Arr A) (hs : (stairL A 200).length ≤ 12) : Ev (fun k => spec_StairOf.f k (spG A 200)) (stairL A 200, true) := by
  have hl := spG_len A 200
  refine downto (P := fun i => Ev (fun k => spec_StairOf.l0 k (spG A 200) (i : Int)) (stairL A 200, true)) (n := (spG A 200).length) ?_ ?_
  · have h1 := l5Ok_ev (stair_good hA) (by omega)
    have e : decide (((stairL A 200).length : Int) ≤ 12) = true := decide_eq_true (by omega)
    rw [e] at h1
    exact Ev.step (fun k => by simp only [spec_StairOf.l0]; rw [if_neg (by omega)]) (Ev.bind (tidy_ev hA) (Ev.bind h1 (Ev.pos rfl (Ev.ret _))))
  · intro i hi hnext
    obtain ⟨g, g1, g2, he⟩ := mem_spG.1 (List.getElem_mem hi)
    have hb := hA.bnd g (by omega)
    have b1 : betB (spG A 200)[i].f0 0 199 = true := betB_iff.2 (by rw [he]; simp only; omega)
    have b2 : betB (spG A 200)[i].f1 (spG A 200)[i].f0 199 = true := betB_iff.2 (by rw [he]; simp only; omega)
    have g3 := l1In_ev (spG A 200)[i].f0 0 199
    have g4 := l1In_ev (spG A 200)[i].f1 (spG A 200)[i].f0 199
    rw [b1] at g3
    rw [b2] at g4
    exact Ev.step (fun k => by simp only [spec_StairOf.l0]; rw [if_pos (by omega), if_pos (by omega), rdSt_at _ i hi, w64s (by omega)]) (Ev.bind g3 (Ev.pos rfl (Ev.bind g4 (Ev.pos rfl hnext))))
theorem spec_stair_loop (h : Put s ch l src tgt) : Ev (fun k => spec_PlanStair.l0 k src tgt [] 0 s ch l) (stairL (arrT s ch l src tgt) 200, true) := by
  have hP := downto (P := fun i => Ev (fun k => spec_PlanStair.l0 k src tgt (spG (arrT s ch l src tgt) i) (i : Int) s ch l) (stairL (arrT s ch l src tgt) 200, true)) (n := 200) ?_ ?_
  · exact hP
  · have := stair_short h
    exact Ev.step (fun k => by simp only [spec_PlanStair.l0]; rw [if_neg (by omega)]) (Ev.bind (specStairOf_ev h.table (by omega)) (Ev.ret _))
  · intro i hi hnext
    have hin := h.in_ (t := (i : Int)) (by omega)
    have hl := planAll_len hin
    have ht := h.to_
    have hGl := spG_len (arrT s ch l src tgt) i
    have eA : arrT s ch l src tgt i = rd (planAll s ch l src (i : Int)) tgt := by unfold arrT; rw [if_pos (by omega)]
    unfold spG at hnext
    rw [eA] at hnext
    refine Ev.step (fun k => by simp only [spec_PlanStair.l0]; rw [if_pos (by omega), w64s (by omega)]) (Ev.bind (all6_planAll hin) ?_)
    refine Ev.pos (by omega) (Ev.pos (by omega) ?_)
    by_cases hf : rd (planAll s ch l src (i : Int)) tgt < 99999
    · rw [if_pos hf] at hnext
      exact Ev.pos hf (Ev.pos (by omega) hnext)
    · rw [if_neg hf] at hnext
      exact Ev.neg hf hnext
theorem spec_PlanStair_ev (s ch : Int) (l : List Cn) (src tgt : Int) (hl : l.length ≤ 1048576) : Ev (fun k => spec_PlanStair.f k s ch l src tgt) (planStair s ch l src tgt) := by
  have stop : Ev (fun k => spec_PlanStair.j0 k src tgt [] true s ch l) ([], false) := Ev.step (G := fun _ => some ([], false)) (fun k => by simp [spec_PlanStair.j0]) (Ev.ret _)
  have off : stairB s ch l src tgt = false → planStair s ch l src tgt = ([], false) := fun e => by unfold planStair; rw [e, if_neg (by simp)]
  unfold spec_PlanStair.f
  simp only [Option.bind_some]
  refine Ev.bind (l6Ok_ev s ch l hl) ?_
  cases h0 : planOkB s ch l with
  | false => exact Ev.neg (by simp) (stop.eq (off (by simp [stairB, h0])).symm)
  | true =>
  refine Ev.pos rfl (Ev.bind (l1In_ev _ _ _) ?_)
  cases h1 : betB src 0 (wrap64 (s - 1)) with
  | false => exact Ev.neg (by simp) (stop.eq (off (by simp [stairB, h1])).symm)
  | true =>
  refine Ev.pos rfl (Ev.bind (l1In_ev _ _ _) ?_)
  cases h2 : betB tgt 0 (wrap64 (s - 1)) with
  | false => exact Ev.neg (by simp) (stop.eq (off (by simp [stairB, h2])).symm)
  | true =>
  refine Ev.pos rfl ?_
  cases h3 : (src == tgt) with
  | true => exact stop.eq (off (by simp [stairB, h3])).symm
  | false =>
    have hb : stairB s ch l src tgt = true := by unfold stairB; rw [h0, h1, h2, h3]; rfl
    have e : planStair s ch l src tgt = (stairL (arrT s ch l src tgt) 200, true) := by unfold planStair; rw [if_pos hb]
    rw [e]
    exact Ev.step (fun k => by simp only [spec_PlanStair.j0]; rfl) (Ev.neg (by simp) (spec_stair_loop (stairB_put hb)))
end Go.Proofs.Ytcklifkbodmoaaa.M
