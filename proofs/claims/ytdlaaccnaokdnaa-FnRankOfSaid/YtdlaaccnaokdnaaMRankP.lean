/- Distances as a function of two nodes; a hierarchy's entries against them. -/
import Derived.Test.YtdlaaccnaokdnaaMRev
import Derived.Test.YtdlaaccnaokdnaaMRankU
import Derived.Test.YtdlaaccnaokdnaaMRankD
set_option linter.unusedVariables false
namespace Go.Proofs.Ytdlaaccnaokdnaa.M
open Go.RowKit Go.Proofs.Ytdlaaccnaokdnaa.P Go.Proofs.YtdlaaccnaokdnaaV.PrintWords Go.Proofs.YtdlaaccnaokdnaaV.PrintMore
/-- all distances of a net that is ok, as one function of lists -/
theorem dist_fun {nodes : Int} {l : List S61} (h : netOkB nodes l = true) : ∃ DS : Int → List Int, ∀ a : Int, 0 ≤ a ∧ a < nodes → Ev (fun k => impl_NearAll.f k nodes l a) (DS a) ∧ IsDist nodes.toNat l a (DS a) := by
  have : ∀ a : Int, ∃ D : List Int, 0 ≤ a ∧ a < nodes → Ev (fun k => impl_NearAll.f k nodes l a) D ∧ IsDist nodes.toNat l a D := by
    intro a
    by_cases ha : 0 ≤ a ∧ a < nodes
    · obtain ⟨D, h1, h2⟩ := from_dist h ha
      refine ⟨D, fun _ => ⟨nearAll_ev h ?_ h1, h2⟩⟩
      obtain ⟨b1, b2, _⟩ := rk_bounds h
      unfold inB
      rw [w64 (by omega)]
      simp
      omega
    · exact ⟨[], fun h => absurd h ha⟩
  exact ⟨fun a => (this a).choose, fun a ha => (this a).choose_spec ha⟩
theorem arcG_val (l : List S61) (a b : Int) : arcG l a b = 99999 ∨ ∃ x ∈ l, x.f0 = a ∧ x.f1 = b ∧ arcG l a b = x.f2 := by
  have : ∀ j, j ≤ l.length → arcG (l.take j) a b = 99999 ∨ ∃ x ∈ l, x.f0 = a ∧ x.f1 = b ∧ arcG (l.take j) a b = x.f2 := by
    intro j
    induction j with
    | zero => exact fun _ => .inl rfl
    | succ j ih =>
      intro hj
      have := ih (by omega)
      rw [arcG_succ l j (by omega)]
      generalize arcG (l.take j) = F at this ⊢
      unfold upd
      by_cases h2 : a = l[j].f0 ∧ b = l[j].f1
      · rw [if_pos h2, ← h2.1, ← h2.2]
        unfold mn
        by_cases h3 : l[j].f2 < F a b
        · rw [if_pos h3]
          exact .inr ⟨l[j], List.getElem_mem _, h2.1.symm, h2.2.symm, rfl⟩
        · rwa [if_neg h3]
      · rwa [if_neg h2]
  have h2 := this l.length (Nat.le_refl _)
  rwa [List.take_length] at h2
theorem foldl_arc_le : ∀ (l : List S61) (F : Int → Int → Int) (a b : Int), l.foldl (fun F x => upd F x.f0 x.f1 (mn (F x.f0 x.f1) x.f2)) F a b ≤ F a b
  | [], F, a, b => Int.le_refl _
  | x :: l, F, a, b => by
    refine Int.le_trans (foldl_arc_le l _ a b) ?_
    show upd F x.f0 x.f1 (mn (F x.f0 x.f1) x.f2) a b ≤ F a b
    unfold upd mn
    by_cases h2 : a = x.f0 ∧ b = x.f1
    · rw [if_pos h2, ← h2.1, ← h2.2]
      by_cases h3 : x.f2 < F a b
      · rw [if_pos h3]; omega
      · rw [if_neg h3]; exact Int.le_refl _
    · rw [if_neg h2]; exact Int.le_refl _
theorem arcG_le (l : List S61) (x : S61) (hx : x ∈ l) : arcG l x.f0 x.f1 ≤ x.f2 := by
  have : ∀ (l : List S61) (F : Int → Int → Int), x ∈ l → l.foldl (fun F x => upd F x.f0 x.f1 (mn (F x.f0 x.f1) x.f2)) F x.f0 x.f1 ≤ x.f2 := by
    intro l
    induction l with
    | nil => intro F h; cases h
    | cons y l ih =>
      intro F h
      rcases List.mem_cons.1 h with rfl | h
      · refine Int.le_trans (foldl_arc_le l _ _ _) ?_
        show upd F x.f0 x.f1 (mn (F x.f0 x.f1) x.f2) x.f0 x.f1 ≤ x.f2
        unfold upd mn
        rw [if_pos ⟨rfl, rfl⟩]
        by_cases h3 : x.f2 < F x.f0 x.f1
        · rw [if_pos h3]; exact Int.le_refl _
        · rw [if_neg h3]; omega
      · exact ih _ h
  exact this l far2 hx
section
variable {nodes : Int} {l : List S61} {DS : Int → List Int}
def InN (nodes : Int) (a : Int) : Prop := 0 ≤ a ∧ a < nodes
theorem ds_tri (h : netOkB nodes l = true) (hD : ∀ a : Int, InN nodes a → IsDist nodes.toNat l a (DS a)) : ∀ a m b : Int, InN nodes a → InN nodes m → InN nodes b → rd (DS a) b ≤ rd (DS a) m + rd (DS m) b := by
  intro a m b ha hm hb
  obtain ⟨b1, b2, _⟩ := rk_bounds h
  have e : (nodes.toNat : Int) = nodes := by omega
  have q1 := (hD a ha).leFar (y := m) hm.1 (by have := hm.2; omega)
  have q2 := (hD m hm).leFar (y := b) hb.1 (by have := hb.2; omega)
  have q3 := (hD a ha).leFar (y := b) hb.1 (by have := hb.2; omega)
  by_cases f1 : rd (DS a) m = Far
  · have : rd (DS a) m = 99999 := f1; omega
  by_cases f2 : rd (DS m) b = Far
  · have : rd (DS m) b = 99999 := f2; omega
  have w1 := (hD a ha).walk m hm.1 (by have := hm.2; omega) f1
  have w2 := (hD m hm).walk b hb.1 (by have := hb.2; omega) f2
  exact (hD a ha).least b _ (w1.append w2)
theorem ds_ge (h : netOkB nodes l = true) (hD : ∀ a : Int, InN nodes a → IsDist nodes.toNat l a (DS a)) : Ge (InN nodes) (fun a b => rd (DS a) b) (arcS l) := by
  intro a b ha hb
  obtain ⟨b1, b2, _⟩ := rk_bounds h
  have q3 := (hD a ha).leFar (y := b) hb.1 (by have := hb.2; omega)
  show rd (DS a) b ≤ arcG l a b
  rcases arcG_val l a b with e | ⟨x, hx, rfl, rfl, e⟩
  · rw [e]; exact q3.2.1
  · rw [e]; exact (hD _ ha).least _ _ (Walk.one hx)
theorem rk_ge (h : netOkB nodes l = true) (hD : ∀ a : Int, InN nodes a → IsDist nodes.toNat l a (DS a)) {o : List Int} (ho : Ord o nodes) : Ge (InN nodes) (fun a b => rd (DS a) b) (rkAll o (arcS l)) :=
  rkAll_ge (ds_tri h hD) o (fun x hx => ho.2.2 x hx) (ds_ge h hD)
theorem rk_le_arc {o : List Int} {x : S61} (hx : x ∈ l) : (rkAll o (arcS l)).1 x.f0 x.f1 ≤ x.f2 :=
  Int.le_trans ((rkAll_dn o (arcS l)).le _ _) (arcG_le l x hx)
end
end Go.Proofs.Ytdlaaccnaokdnaa.M
