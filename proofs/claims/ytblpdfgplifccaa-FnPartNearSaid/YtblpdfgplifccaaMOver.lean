/- What is told over edge nodes: both sides fill the same table. -/
import Derived.Test.YtblpdfgplifccaaMGrid
import Derived.Test.YtblpdfgplifccaaMPart
import Derived.Test.YtblpdfgplifccaaMTab
import Derived.Test.YtblpdfgplifccaaMRev
import Derived.Test.YtblpdfgplifccaaPFSpecL10Over
set_option linter.unusedVariables false
namespace Go.Proofs.Ytblpdfgplifccaa.M
open Go.RowKit Go.Proofs.Ytblpdfgplifccaa.P Go.Proofs.YtblpdfgplifccaaV.PrintWords Go.Proofs.YtblpdfgplifccaaV.PrintMore
theorem upd_same (F : Int → Int → Int) (a b : Int) : upd F a b (F a b) = F := by
  funext i j
  unfold upd
  by_cases h : i = a ∧ j = b
  · rw [if_pos h, h.1, h.2]
  · rw [if_neg h]
def arcStep (p : List Int) (F : Int → Int → Int) (x : S33) : Int → Int → Int := if rd p x.f0 = rd p x.f1 then F else upd F x.f0 x.f1 (mn (F x.f0 x.f1) x.f2)
def arcF (p : List Int) (l : List S33) : Int → Int → Int := l.foldl (arcStep p) far2
theorem arcF_succ (p : List Int) (l : List S33) (i : Nat) (hi : i < l.length) : arcF p (l.take (i + 1)) = arcStep p (arcF p (l.take i)) l[i] := by
  unfold arcF
  rw [List.take_succ_eq_append_getElem hi, List.foldl_append]
  rfl
theorem ovArc_mat {n : Nat} {p : List Int} (hp : p.length = n) {x : S33} (h : (0 ≤ x.f0 ∧ x.f0 < n) ∧ 0 ≤ x.f1 ∧ x.f1 < n) (F : Int → Int → Int) : ovArc p (mat n F) x = some (mat n (arcStep p F x)) := by
  unfold ovArc arcStep
  rw [if_pos (by omega)]
  by_cases hc : rd p x.f0 = rd p x.f1
  · rw [if_pos hc, if_pos hc]
  · rw [if_neg hc, if_neg hc, mat_row_len F h.1.1 h.1.2, mat_len, if_pos ⟨h.1.2, h.2.2⟩, ovPut_mat F h.1.1 h.1.2 h.2.1, rd_mat2 F h.1.1 h.1.2 h.2.1 h.2.2]
theorem ovArcs_mat {n : Nat} {p : List Int} (hp : p.length = n) {l : List S33} (h : arcsIn n l) : ovArcs p l (mat n far2) l.length = some (mat n (arcF p l)) := by
  have : ∀ j, j ≤ l.length → foldN (fun G j => ovArc p G (rd_T33 l (j : Int))) (mat n far2) j = some (mat n (arcF p (l.take j))) := by
    intro j
    induction j with
    | zero => exact fun _ => rfl
    | succ j ih =>
      intro hj
      unfold foldN
      rw [ih (by omega), Option.bind_some, rd_T33_at l j (by omega), ovArc_mat hp (h _ (List.getElem_mem (by omega))), arcF_succ p l j (by omega)]
  have h2 := this l.length (Nat.le_refl _)
  rwa [List.take_length] at h2
theorem specArcs_ev {n : Nat} {p : List Int} (hp : p.length = n) {l : List S33} (hl : l.length ≤ 16) (hin : arcsIn n l) {nodes : Int} {R : List (List Int)} (hR : Ev (fun k => spec_l10Over.l1 k p (mat n (arcF p l)) 0 nodes l) R) : Ev (fun k => spec_l10Over.l0 k p (mat n far2) 0 nodes l) R := by
  refine downto (P := fun i => Ev (fun k => spec_l10Over.l0 k p (mat n (arcF p (l.take i))) (i : Int) nodes l) R) (n := l.length) ?_ ?_
  · rw [List.take_length]
    exact Ev.step (fun k => by simp only [spec_l10Over.l0]; rw [if_neg (by omega)]) hR
  · intro i hi h
    obtain ⟨⟨a0, a1⟩, b0, b1⟩ := hin l[i] (List.getElem_mem hi)
    rw [arcF_succ p l i hi] at h
    generalize arcF p (l.take i) = F at h ⊢
    refine Ev.step (fun k => ?_) h
    simp only [spec_l10Over.l0]
    rw [if_pos (by omega), if_pos (by omega), rd_T33_at l i hi, if_pos a0, if_pos (by omega), if_pos b0, if_pos (by omega), w64s (by omega)]
    unfold arcStep
    by_cases hc : rd p l[i].f0 = rd p l[i].f1
    · rw [if_pos hc, if_pos hc]
    · rw [if_neg hc, if_neg hc, mat_len, if_pos a1, mat_row_len F a0 a1, if_pos b1, rd_mat2 F a0 a1 b0 b1, mat_put F a0 a1 b0]
      unfold mn
      by_cases h2 : l[i].f2 < F l[i].f0 l[i].f1
      · rw [if_pos h2, if_pos h2]
      · rw [if_neg h2, if_neg h2, upd_same]
/-- at an arc's ends: no more than the arc; else far, or an arc's own -/
theorem arcF_val (p : List Int) (l : List S33) (a b : Int) : arcF p l a b = 99999 ∨ ∃ x ∈ l, x.f0 = a ∧ x.f1 = b ∧ rd p a ≠ rd p b ∧ arcF p l a b = x.f2 := by
  have : ∀ j, j ≤ l.length → arcF p (l.take j) a b = 99999 ∨ ∃ x ∈ l, x.f0 = a ∧ x.f1 = b ∧ rd p a ≠ rd p b ∧ arcF p (l.take j) a b = x.f2 := by
    intro j
    induction j with
    | zero => exact fun _ => .inl rfl
    | succ j ih =>
      intro hj
      have := ih (by omega)
      rw [arcF_succ p l j (by omega)]
      generalize arcF p (l.take j) = F at this ⊢
      unfold arcStep
      by_cases hc : rd p l[j].f0 = rd p l[j].f1
      · rwa [if_pos hc]
      · rw [if_neg hc]
        unfold upd
        by_cases h2 : a = l[j].f0 ∧ b = l[j].f1
        · rw [if_pos h2, ← h2.1, ← h2.2]
          unfold mn
          by_cases h3 : l[j].f2 < F a b
          · rw [if_pos h3]
            exact .inr ⟨l[j], List.getElem_mem _, h2.1.symm, h2.2.symm, by rw [h2.1, h2.2]; exact hc, rfl⟩
          · rwa [if_neg h3]
        · rwa [if_neg h2]
  have h2 := this l.length (Nat.le_refl _)
  rwa [List.take_length] at h2
theorem arcStep_le (p : List Int) (F : Int → Int → Int) (x : S33) (a b : Int) : arcStep p F x a b ≤ F a b := by
  unfold arcStep
  by_cases hc : rd p x.f0 = rd p x.f1
  · rw [if_pos hc]; exact Int.le_refl _
  · rw [if_neg hc]
    unfold upd mn
    by_cases h2 : a = x.f0 ∧ b = x.f1
    · rw [if_pos h2, ← h2.1, ← h2.2]
      by_cases h3 : x.f2 < F a b
      · rw [if_pos h3]; omega
      · rw [if_neg h3]; exact Int.le_refl _
    · rw [if_neg h2]; exact Int.le_refl _
theorem foldl_arc_le (p : List Int) : ∀ (l : List S33) (F : Int → Int → Int) (a b : Int), l.foldl (arcStep p) F a b ≤ F a b
  | [], F, a, b => Int.le_refl _
  | x :: l, F, a, b => Int.le_trans (foldl_arc_le p l _ a b) (arcStep_le p F x a b)
theorem arcF_le (p : List Int) : ∀ (l : List S33) (F : Int → Int → Int), ∀ x ∈ l, rd p x.f0 ≠ rd p x.f1 → l.foldl (arcStep p) F x.f0 x.f1 ≤ x.f2
  | [], F, x, hx, _ => by cases hx
  | y :: l, F, x, hx, hc => by
    rcases List.mem_cons.1 hx with rfl | hx
    · refine Int.le_trans (foldl_arc_le p l _ _ _) ?_
      unfold arcStep
      rw [if_neg hc]
      unfold upd mn
      rw [if_pos ⟨rfl, rfl⟩]
      by_cases h3 : x.f2 < F x.f0 x.f1
      · rw [if_pos h3]; exact Int.le_refl _
      · rw [if_neg h3]; omega
    · exact arcF_le p l _ x hx hc
/-- the nodes of a net that have an arc to another part -/
theorem mem_edgesOf (l : List S33) (p : List Int) (v : Int) : ∀ n : Nat, v ∈ edgesOf l p n ↔ 0 ≤ v ∧ v < n ∧ l.any (edgeB p v) = true
  | 0 => by
    show v ∈ ([] : List Int) ↔ _
    simp
    intro h1 h2
    omega
  | n + 1 => by
    by_cases h : l.any (edgeB p (n : Int)) = true
    · rw [edgesOf_hit h, List.mem_append, mem_edgesOf l p v n, List.mem_singleton]
      constructor
      · rintro (⟨a, b, c⟩ | rfl)
        · exact ⟨a, by omega, c⟩
        · exact ⟨by omega, by omega, h⟩
      · rintro ⟨a, b, c⟩
        by_cases e : v = n
        · exact .inr e
        · exact .inl ⟨a, by omega, c⟩
    · rw [edgesOf_miss (Bool.eq_false_iff.2 h), mem_edgesOf l p v n]
      constructor
      · rintro ⟨a, b, c⟩
        exact ⟨a, by omega, c⟩
      · rintro ⟨a, b, c⟩
        by_cases e : v = n
        · exact absurd (e ▸ c) h
        · exact ⟨a, by omega, c⟩
/-- at C it is W, else F -/
def Put (n : Nat) (C : Int → Int → Prop) (W F G : Int → Int → Int) : Prop := ∀ a b : Int, 0 ≤ a → a < n → 0 ≤ b → b < n → (C a b → G a b = W a b) ∧ (¬ C a b → G a b = F a b)
theorem Put.iff {n : Nat} {C C' : Int → Int → Prop} {W F G : Int → Int → Int} (h : Put n C W F G) (e : ∀ a b : Int, 0 ≤ a → a < n → 0 ≤ b → b < n → (C' a b ↔ C a b)) : Put n C' W F G := fun a b a0 a1 b0 b1 => by
  rw [e a b a0 a1 b0 b1]
  exact h a b a0 a1 b0 b1
theorem Put.add {n : Nat} {C : Int → Int → Prop} {W F G : Int → Int → Int} (h : Put n C W F G) (a b : Int) : Put n (fun i j => C i j ∨ (i = a ∧ j = b)) W F (upd G a b (W a b)) := fun i j i0 i1 j0 j1 => by
  unfold upd
  by_cases e : i = a ∧ j = b
  · rw [if_pos e]
    refine ⟨fun _ => by rw [e.1, e.2], fun h2 => absurd (.inr e) h2⟩
  · rw [if_neg e]
    refine ⟨fun h2 => (h i j i0 i1 j0 j1).1 (h2.resolve_right e), fun h2 => (h i j i0 i1 j0 j1).2 fun h3 => h2 (.inl h3)⟩
def Over (p : List Int) (E : Int → Bool) (a b : Int) : Prop := a ≠ b ∧ rd p a = rd p b ∧ E a = true ∧ E b = true
instance (p : List Int) (E : Int → Bool) (a b : Int) : Decidable (Over p E a b) := by unfold Over; infer_instance
def ovF (p : List Int) (E : Int → Bool) (W F : Int → Int → Int) : Int → Int → Int := fun a b => if Over p E a b then W a b else F a b
theorem Put.end_ {n : Nat} {p : List Int} {E : Int → Bool} {W F G : Int → Int → Int} (h : Put n (Over p E) W F G) : mat n G = mat n (ovF p E W F) := mat_congr fun a b a0 a1 b0 b1 => by
  obtain ⟨h1, h2⟩ := h a b a0 a1 b0 b1
  unfold ovF
  by_cases e : Over p E a b
  · rw [if_pos e, h1 e]
  · rw [if_neg e, h2 e]
theorem ovRow_mat {n : Nat} {p : List Int} (hp : p.length = n) {T : List (List Int)} (hT : T.length = n) (hTr : ∀ i : Int, 0 ≤ i → i < n → (rd_L5 T i).length = n) {es : List Int} (hes : ∀ v ∈ es, 0 ≤ v ∧ v < n) {a : Int} (ha : 0 ≤ a ∧ a < n) {C : Int → Int → Prop} {F G : Int → Int → Int} (h : Put n C (fun a b => rd (rd_L5 T a) b) F G) : ∀ m, m ≤ es.length → ∃ G', ovRow p T es a (mat n G) m = some (mat n G') ∧ Put n (fun i j => C i j ∨ (i = a ∧ j ∈ es.take m ∧ a ≠ j ∧ rd p a = rd p j)) (fun a b => rd (rd_L5 T a) b) F G' := by
  intro m
  induction m with
  | zero => exact fun _ => ⟨G, rfl, h.iff fun i j _ _ _ _ => by simp⟩
  | succ m ih =>
    intro hm
    obtain ⟨G', e, hG⟩ := ih (by omega)
    unfold ovRow at e ⊢
    unfold foldN
    rw [e, Option.bind_some, rd_at0 es m (by omega)]
    obtain ⟨b0, b1⟩ := hes es[m] (List.getElem_mem (by omega))
    have hmem : ∀ j : Int, j ∈ es.take (m + 1) ↔ j ∈ es.take m ∨ j = es[m] := fun j => by rw [List.take_succ_eq_append_getElem (by omega), List.mem_append, List.mem_singleton]
    generalize es[m] = b at b0 b1 hmem ⊢
    unfold ovAB
    by_cases hab : a = b
    · rw [if_pos hab]
      refine ⟨G', rfl, hG.iff fun i j _ _ _ _ => ?_⟩
      rw [hmem j]
      constructor
      · rintro (h1 | ⟨h1, h2 | h2, h3, h4⟩)
        · exact .inl h1
        · exact .inr ⟨h1, h2, h3, h4⟩
        · exact absurd (hab.trans h2.symm) h3
      · rintro (h1 | ⟨h1, h2, h3, h4⟩)
        · exact .inl h1
        · exact .inr ⟨h1, .inl h2, h3, h4⟩
    · rw [if_neg hab, if_pos (by omega)]
      by_cases hpp : rd p a = rd p b
      · rw [if_pos hpp, mat_len, mat_row_len G' ha.1 ha.2, hT, hTr a ha.1 ha.2, if_pos ⟨ha.2, b1, ha.2, b1⟩, ovPut_mat G' ha.1 ha.2 b0]
        refine ⟨_, rfl, (hG.add a b).iff fun i j _ _ _ _ => ?_⟩
        rw [hmem j]
        constructor
        · rintro (h1 | ⟨h1, h2 | h2, h3, h4⟩)
          · exact .inl (.inl h1)
          · exact .inl (.inr ⟨h1, h2, h3, h4⟩)
          · exact .inr ⟨h1, h2⟩
        · rintro ((h1 | ⟨h1, h2, h3, h4⟩) | ⟨h1, h2⟩)
          · exact .inl h1
          · exact .inr ⟨h1, .inl h2, h3, h4⟩
          · exact .inr ⟨h1, .inr h2, by rw [h2]; exact hab, by rw [h2]; exact hpp⟩
      · rw [if_neg hpp]
        refine ⟨G', rfl, hG.iff fun i j _ _ _ _ => ?_⟩
        rw [hmem j]
        constructor
        · rintro (h1 | ⟨h1, h2 | h2, h3, h4⟩)
          · exact .inl h1
          · exact .inr ⟨h1, h2, h3, h4⟩
          · exact absurd (h2 ▸ h4) hpp
        · rintro (h1 | ⟨h1, h2, h3, h4⟩)
          · exact .inl h1
          · exact .inr ⟨h1, .inl h2, h3, h4⟩
theorem ovAll_mat {n : Nat} {p : List Int} (hp : p.length = n) {T : List (List Int)} (hT : T.length = n) (hTr : ∀ i : Int, 0 ≤ i → i < n → (rd_L5 T i).length = n) {l : List S33} (F : Int → Int → Int) : ovAll p T (edgesOf l p n) (mat n F) (edgesOf l p n).length = some (mat n (ovF p (fun v => l.any (edgeB p v)) (fun a b => rd (rd_L5 T a) b) F)) := by
  have hes : ∀ v ∈ edgesOf l p n, 0 ≤ v ∧ v < n := fun v hv => ⟨((mem_edgesOf l p v n).1 hv).1, ((mem_edgesOf l p v n).1 hv).2.1⟩
  have hE : ∀ v : Int, 0 ≤ v → v < n → (v ∈ edgesOf l p n ↔ l.any (edgeB p v) = true) := fun v v0 v1 => ⟨fun h => ((mem_edgesOf l p v n).1 h).2.2, fun h => (mem_edgesOf l p v n).2 ⟨v0, v1, h⟩⟩
  generalize edgesOf l p n = es at hes hE ⊢
  have key : ∀ m, m ≤ es.length → ∃ G, ovAll p T es (mat n F) m = some (mat n G) ∧ Put n (fun i j => i ∈ es.take m ∧ j ∈ es ∧ i ≠ j ∧ rd p i = rd p j) (fun a b => rd (rd_L5 T a) b) F G := by
    intro m
    induction m with
    | zero => exact fun _ => ⟨F, rfl, fun a b _ _ _ _ => ⟨fun h => (by simp at h), fun _ => rfl⟩⟩
    | succ m ih =>
      intro hm
      obtain ⟨G, e, hG⟩ := ih (by omega)
      unfold ovAll at e ⊢
      unfold foldN
      rw [e, Option.bind_some, rd_at0 es m (by omega)]
      obtain ⟨G', e', hG'⟩ := ovRow_mat hp hT hTr hes (hes es[m] (List.getElem_mem (by omega))) hG es.length (Nat.le_refl _)
      rw [e']
      refine ⟨G', rfl, hG'.iff fun i j _ _ _ _ => ?_⟩
      rw [List.take_length, List.take_succ_eq_append_getElem (by omega), List.mem_append, List.mem_singleton]
      constructor
      · rintro ⟨h1 | h1, h2, h3, h4⟩
        · exact .inl ⟨h1, h2, h3, h4⟩
        · exact .inr ⟨h1, h2, h1 ▸ h3, h1 ▸ h4⟩
      · rintro (⟨h1, h2, h3, h4⟩ | ⟨h1, h2, h3, h4⟩)
        · exact ⟨.inl h1, h2, h3, h4⟩
        · exact ⟨.inr h1, h2, h1 ▸ h3, h1 ▸ h4⟩
  obtain ⟨G, e, hG⟩ := key es.length (Nat.le_refl _)
  rw [e, (hG.iff (C' := Over p fun v => l.any (edgeB p v)) fun i j i0 i1 j0 j1 => ?_).end_]
  rw [List.take_length, hE i i0 i1, hE j j0 j1]
  unfold Over
  constructor
  · rintro ⟨h1, h2, h3, h4⟩
    exact ⟨h3, h4, h1, h2⟩
  · rintro ⟨h1, h2, h3, h4⟩
    exact ⟨h3, h4, h1, h2⟩
end Go.Proofs.Ytblpdfgplifccaa.M
