/- The reference's test of an order; two tables compared; Both sides' test of a hierarchy; Entries counted, row by row. -/
import Derived.Test.YtdlaaccnaokdnaaMRankG
import Derived.Test.YtdlaaccnaokdnaaMNetOk
import Derived.Test.YtdlaaccnaokdnaaPFSpecL8Order
import Derived.Test.YtdlaaccnaokdnaaGSame
import Derived.Test.YtdlaaccnaokdnaaPFImplRankok
import Derived.Test.YtdlaaccnaokdnaaPFSpecRankok
set_option linter.unusedVariables false
namespace Go.Proofs.Ytdlaaccnaokdnaa.M
open Go.RowKit Go.Proofs.Ytdlaaccnaokdnaa.P Go.Proofs.YtdlaaccnaokdnaaV.PrintWords Go.Proofs.YtdlaaccnaokdnaaV.PrintMore
theorem rdL5_at (g : List (List Int)) (i : Nat) (hi : i < g.length) : rd_L5 g (i : Int) = g[i] := by simp [rd_L5, List.getD, hi]
/-- so few rows, each so short -/
def Few (g : List (List Int)) : Prop := g.length ≤ 1048576 ∧ ∀ r ∈ g, r.length ≤ 1048576
/-- the reference's test of an order -/
theorem l8Order_ev (l : List Int) (n : Int) (hl : l.length ≤ 1048576) (hn : 1 ≤ n ∧ n ≤ 8) : Ev (fun k => spec_l8Order.f k l n) (decide (Ord l n)) := by
  have hw : wrap64 (n - 1) = n - 1 := by unfold wrap64; omega
  show Ev (fun k => spec_l8Order.l0 k l n 0) _
  have key : ∀ (d i : Nat), i + d = l.length → (l.take i).Nodup → (∀ x ∈ l.take i, 0 ≤ x ∧ x < n) → Ev (fun k => spec_l8Order.l0 k l n (i : Int)) (decide (Ord l n)) := by
    intro d
    induction d with
    | zero =>
      intro i hi hnd hin
      rw [List.take_of_length_le (by omega)] at hnd hin
      refine Ev.step (G := fun _ => some (decide (Ord l n))) (fun k => ?_) (Ev.ret _)
      simp only [spec_l8Order.l0]
      rw [if_neg (by omega)]
      have : Ord l n ↔ (l.length : Int) = n := ⟨fun h => h.1, fun h => ⟨h, hnd, hin⟩⟩
      rw [decide_eq_decide.2 this]
      rfl
    | succ d ih =>
      intro i hi hnd hin
      have hii : i < l.length := by omega
      have hmem := List.getElem_mem hii
      by_cases hx : 0 ≤ l[i] ∧ l[i] < n
      rotate_left
      · have hno : ¬ Ord l n := fun h => hx (h.2.2 _ hmem)
        rw [decide_eq_false hno]
        refine Ev.step (G := fun _ => some false) (fun k => ?_) (Ev.ret _)
        simp only [spec_l8Order.l0]
        rw [if_pos (by omega), if_pos (by omega), rd_at0 l i hii, hw, l1In_le, Option.bind_some, if_neg (by simp; omega)]
      refine Ev.step (G := fun k => spec_l8Order.l1 k l n (i : Int) 0) (fun k => ?_) ?_
      · simp only [spec_l8Order.l0]
        rw [if_pos (by omega), if_pos (by omega), rd_at0 l i hii, hw, l1In_le, Option.bind_some, if_pos (by simp; omega)]
      · have key2 : ∀ (u j : Nat), j + u = i → (∀ m (hm : m < l.length), m < j → l[m] ≠ l[i]) → Ev (fun k => spec_l8Order.l1 k l n (i : Int) (j : Int)) (decide (Ord l n)) := by
          intro u
          induction u with
          | zero =>
            intro j hj hall
            obtain rfl : j = i := by omega
            have hnd2 : (l.take (j + 1)).Nodup := by
              rw [List.take_succ_eq_append_getElem hii, List.nodup_append]
              refine ⟨hnd, by simp, fun a ha b hb e => ?_⟩
              rw [List.mem_singleton.1 hb] at e
              obtain ⟨m, hm, hm2⟩ := List.getElem_of_mem ha
              rw [List.length_take] at hm
              rw [List.getElem_take] at hm2
              exact hall m (by omega) (by omega) (hm2.trans e)
            have hin2 : ∀ x ∈ l.take (j + 1), 0 ≤ x ∧ x < n := by
              intro x hx2
              rw [List.take_succ_eq_append_getElem hii] at hx2
              rcases List.mem_append.1 hx2 with h | h
              · exact hin x h
              · rw [List.mem_singleton.1 h]; exact hx
            refine Ev.step (fun k => ?_) (ih (j + 1) (by omega) hnd2 hin2)
            simp only [spec_l8Order.l1]
            rw [if_neg (by omega), w64s (by omega)]
          | succ u ihu =>
            intro j hj hall
            have hjl : j < l.length := by omega
            by_cases he : l[j] = l[i]
            · have hno : ¬ Ord l n := fun h => by
                have := List.pairwise_iff_getElem.1 h.2.1 j i hjl hii (by omega)
                exact this he
              rw [decide_eq_false hno]
              refine Ev.step (G := fun _ => some false) (fun k => ?_) (Ev.ret _)
              simp only [spec_l8Order.l1]
              rw [if_pos (by omega), if_pos (by omega), if_pos (by omega), if_pos (by omega), if_pos (by omega), rd_at0 l i hii, rd_at0 l j hjl, if_pos he]
            · refine Ev.step (fun k => ?_) (ihu (j + 1) (by omega) (fun m hm hmj => by
                rcases Nat.lt_or_ge m j with h | h
                · exact hall m hm h
                · have e : m = j := by omega
                  subst e; exact he))
              simp only [spec_l8Order.l1]
              rw [if_pos (by omega), if_pos (by omega), if_pos (by omega), if_pos (by omega), if_pos (by omega), rd_at0 l i hii, rd_at0 l j hjl, if_neg he, w64s (by omega)]
        exact key2 i 0 (by omega) (fun m _ h => absurd h (Nat.not_lt_zero m))
  exact key l.length 0 (by omega) (by simp) (by simp)
/-- the reference's comparison of tables -/
theorem l8Grids_ev (a b : List (List Int)) (ha : Few a) : Ev (fun k => spec_l8Grids.f k a b) (decide (a = b)) := by
  have ha1 := ha.1
  by_cases hl : (a.length : Int) = (b.length : Int)
  rotate_left
  · have hne : ¬ a = b := fun e => hl (by rw [e])
    rw [decide_eq_false hne]
    exact Ev.congr (G := fun _ => some false) (fun k => by unfold spec_l8Grids.f; rw [if_neg hl]) (Ev.ret _)
  have hl2 : a.length = b.length := by omega
  refine Ev.congr (G := fun k => spec_l8Grids.l0 k a b 0) (fun k => by unfold spec_l8Grids.f; rw [if_pos hl]) ?_
  have key : ∀ (d i : Nat), i + d = a.length → a.take i = b.take i → Ev (fun k => spec_l8Grids.l0 k a b (i : Int)) (decide (a = b)) := by
    intro d
    induction d with
    | zero =>
      intro i hi ht
      have e : a = b := by rwa [List.take_of_length_le (by omega), List.take_of_length_le (by omega)] at ht
      rw [decide_eq_true e]
      refine Ev.step (G := fun _ => some true) (fun k => ?_) (Ev.ret _)
      simp only [spec_l8Grids.l0]
      rw [if_neg (by omega)]
    | succ d ih =>
      intro i hi ht
      have hia : i < a.length := by omega
      have hib : i < b.length := by omega
      have hrow := ha.2 _ (List.getElem_mem hia)
      by_cases hr : (a[i].length : Int) = (b[i].length : Int)
      rotate_left
      · have hne : ¬ a = b := fun e => hr (by subst e; rfl)
        rw [decide_eq_false hne]
        refine Ev.step (G := fun _ => some false) (fun k => ?_) (Ev.ret _)
        simp only [spec_l8Grids.l0]
        rw [if_pos (by omega), if_pos (by omega), if_pos (by omega), rdL5_at a i hia, rdL5_at b i hib, if_neg hr]
      have hr2 : a[i].length = b[i].length := by omega
      refine Ev.step (G := fun k => spec_l8Grids.l1 k a b (i : Int) 0) (fun k => ?_) ?_
      · simp only [spec_l8Grids.l0]
        rw [if_pos (by omega), if_pos (by omega), if_pos (by omega), rdL5_at a i hia, rdL5_at b i hib, if_pos hr]
      · have key2 : ∀ (u j : Nat), j + u = a[i].length → (a[i]).take j = (b[i]).take j → Ev (fun k => spec_l8Grids.l1 k a b (i : Int) (j : Int)) (decide (a = b)) := by
          intro u
          induction u with
          | zero =>
            intro j hj hp
            have e : a[i] = b[i] := by rwa [List.take_of_length_le (by omega), List.take_of_length_le (by omega)] at hp
            refine Ev.step (fun k => ?_) (ih (i + 1) (by omega) (by rw [List.take_succ_eq_append_getElem hia, List.take_succ_eq_append_getElem hib, ht, e]))
            simp only [spec_l8Grids.l1]
            rw [if_pos (by omega), if_pos (by omega), rdL5_at a i hia, if_neg (by omega), w64s (by omega)]
          | succ u ihu =>
            intro j hj hp
            have hja : j < a[i].length := by omega
            have hjb : j < b[i].length := by omega
            by_cases he : a[i][j] = b[i][j]
            · refine Ev.step (fun k => ?_) (ihu (j + 1) (by omega) (by rw [List.take_succ_eq_append_getElem hja, List.take_succ_eq_append_getElem hjb, hp, he]))
              simp only [spec_l8Grids.l1]
              rw [if_pos (by omega), if_pos (by omega), rdL5_at a i hia, if_pos (by omega), if_pos (by omega), if_pos (by omega), rdL5_at b i hib, if_pos (by omega), rd_at0 _ j hja, rd_at0 _ j hjb, if_pos he, w64s (by omega)]
            · have hne : ¬ a = b := fun e => he (by subst e; rfl)
              rw [decide_eq_false hne]
              refine Ev.step (G := fun _ => some false) (fun k => ?_) (Ev.ret _)
              simp only [spec_l8Grids.l1]
              rw [if_pos (by omega), if_pos (by omega), rdL5_at a i hia, if_pos (by omega), if_pos (by omega), if_pos (by omega), rdL5_at b i hib, if_pos (by omega), rd_at0 _ j hja, rd_at0 _ j hjb, if_neg he]
        exact key2 a[i].length 0 (by omega) (by simp)
  exact key a.length 0 (by omega) (by simp)
end Go.Proofs.Ytdlaaccnaokdnaa.M
set_option linter.unusedVariables false
namespace Go.Proofs.Ytdlaaccnaokdnaa.M
open Go.RowKit Go.Proofs.Ytdlaaccnaokdnaa.P Go.Proofs.YtdlaaccnaokdnaaV.PrintWords Go.Proofs.YtdlaaccnaokdnaaV.PrintMore
/-- just what is made of the net by its order -/
def RkOk (n : Int) (l : List S61) (o : List Int) (c v : List (List Int)) : Prop := netOkB n l = true ∧ Ord o n ∧ c = mat n.toNat (rkAll o (arcS l)).1 ∧ v = mat n.toNat (rkAll o (arcS l)).2
instance (n : Int) (l : List S61) (o : List Int) (c v : List (List Int)) : Decidable (RkOk n l o c v) := by unfold RkOk; infer_instance
theorem few_mat {n : Nat} (hn : n ≤ 8) (F : Int → Int → Int) : Few (mat n F) := by
  refine ⟨by rw [mat_len]; omega, fun r hr => ?_⟩
  obtain ⟨i, _, rfl⟩ := List.mem_map.1 hr
  rw [rowF_len]; omega
theorem rkF_yes {n : Int} {l : List S61} {o : List Int} (h1 : netOkB n l = true) (h2 : Ord o n) : rkF n l o = some (o, mat n.toNat (rkAll o (arcS l)).1, mat n.toNat (rkAll o (arcS l)).2) := if_pos ⟨h1, h2⟩
theorem sameGrid_few {a : List (List Int)} (b : List (List Int)) (ha : Few a) : impl_sameGrid.f a b = some (decide (a = b)) := by
  have h1 := ha.1
  unfold impl_sameGrid.f
  rw [if_pos ⟨by omega, List.all_eq_true.2 fun r hr => decide_eq_true (by have := ha.2 r hr; omega)⟩]
theorem specRankOk_ev (n : Int) (l : List S61) (o : List Int) (c v : List (List Int)) (hl : l.length ≤ 1048576) (ho : o.length ≤ 1048576) : Ev (fun k => spec_RankOk.f k n l o c v) (decide (RkOk n l o c v)) := by
  refine Ev.congr (G := fun k => (spec_l1Ok.f k n l).bind fun t103 => (if t103 = true then ((spec_l8Order.f k o n).bind fun t104 => (if t104 = true then ((spec_l8Make.f n l o).bind fun bt105 => ((spec_l8Same.f k bt105.1 bt105.2.1 bt105.2.2 o c v).bind fun t114 => (some t114))) else (some false))) else (some false))) (fun k => by unfold spec_RankOk.f; rfl) ?_
  refine Ev.bind (l1Ok_netOkB n l (by omega)) ?_
  by_cases h1 : netOkB n l = true
  rotate_left
  · refine Ev.neg h1 ?_
    rw [decide_eq_false (fun h => h1 h.1)]
    exact Ev.ret _
  refine Ev.pos h1 ?_
  obtain ⟨b1, b2, b3⟩ := rk_bounds h1
  refine Ev.bind (l8Order_ev o n ho ⟨b1, b2⟩) ?_
  by_cases h2 : Ord o n
  rotate_left
  · rw [decide_eq_false h2]
    refine Ev.neg (by decide) ?_
    rw [decide_eq_false (fun h => h2 h.2.1)]
    exact Ev.ret _
  rw [decide_eq_true h2]
  refine Ev.pos rfl ?_
  refine Ev.congr (G := fun k => (spec_l8Same.f k o (mat n.toNat (rkAll o (arcS l)).1) (mat n.toNat (rkAll o (arcS l)).2) o c v).bind fun t114 => (some t114)) (fun k => by unfold spec_l8Make.f; rw [rkF_yes h1 h2]; rfl) ?_
  refine Ev.bind (a := decide (RkOk n l o c v)) ?_ (Ev.ret _)
  refine Ev.congr (G := fun k => (spec_l8Grids.f k [o] [o]).bind fun t109 => (if t109 = true then ((spec_l8Grids.f k (mat n.toNat (rkAll o (arcS l)).1) c).bind fun t110 => (if t110 = true then ((spec_l8Grids.f k (mat n.toNat (rkAll o (arcS l)).2) v).bind fun t111 => (some t111)) else (some false))) else (some false))) (fun k => by unfold spec_l8Same.f; rfl) ?_
  refine Ev.bind (l8Grids_ev [o] [o] ⟨by simp, fun r hr => by rw [List.mem_singleton.1 hr]; exact ho⟩) ?_
  rw [decide_eq_true rfl]
  refine Ev.pos rfl (Ev.bind (l8Grids_ev _ c (few_mat (by omega) _)) ?_)
  by_cases h3 : mat n.toNat (rkAll o (arcS l)).1 = c
  rotate_left
  · rw [decide_eq_false h3, decide_eq_false (fun h : RkOk n l o c v => h3 h.2.2.1.symm)]
    exact Ev.neg (by decide) (Ev.ret _)
  rw [decide_eq_true h3]
  refine Ev.pos rfl (Ev.bind (l8Grids_ev _ v (few_mat (by omega) _)) ?_)
  refine Ev.eq (Ev.ret _) ?_
  refine decide_eq_decide.2 ⟨fun h => ⟨h1, h2, h3.symm, h.symm⟩, fun h => h.2.2.2.symm⟩
theorem implRankOk_ev (n : Int) (l : List S61) (o : List Int) (c v : List (List Int)) (ho : o.length ≤ 1048576) (hc : Few c) (hv : Few v) : Ev (fun k => impl_RankOk.f k n l o c v) (decide (RkOk n l o c v)) := by
  have hno : ¬ RkOk n l o c v → Ev (fun k => impl_RankOk.j0 k true n l o c v) (decide (RkOk n l o c v)) := fun h => by
    rw [decide_eq_false h]
    exact Ev.step (G := fun _ => some false) (fun k => by simp only [impl_RankOk.j0, if_true]) (Ev.ret _)
  refine Ev.congr (G := fun k => (if netOkB n l = true then ((impl_permuted.f o n).bind fun t104 => (impl_RankOk.j0 k (!t104) n l o c v)) else (impl_RankOk.j0 k true n l o c v))) (fun k => by unfold impl_RankOk.f impl_NetOk.f; rfl) ?_
  by_cases h1 : netOkB n l = true
  rotate_left
  · exact Ev.neg h1 (hno fun h => h1 h.1)
  refine Ev.pos h1 ?_
  refine Ev.congr (G := fun k => impl_RankOk.j0 k (!decide (Ord o n)) n l o c v) (fun k => by unfold impl_permuted.f; rw [if_pos ho]; rfl) ?_
  by_cases h2 : Ord o n
  rotate_left
  · rw [decide_eq_false h2]
    exact hno fun h => h2 h.2.1
  rw [decide_eq_true h2]
  refine Ev.step (G := fun _ => if decide (c = mat n.toNat (rkAll o (arcS l)).1) = true then some (decide (v = mat n.toNat (rkAll o (arcS l)).2)) else some false) (fun k => ?_) ?_
  · simp only [impl_RankOk.j0, Bool.not_true, Bool.false_eq_true, if_false]
    unfold impl_rankOf.f
    rw [rkF_yes h1 h2, Option.bind_some, sameGrid_few _ hc, Option.bind_some, sameGrid_few _ hv]
    rfl
  · by_cases h3 : c = mat n.toNat (rkAll o (arcS l)).1
    rotate_left
    · refine Ev.neg (by simp [h3]) ?_
      rw [decide_eq_false (fun h : RkOk n l o c v => h3 h.2.2.1)]
      exact Ev.ret _
    · refine Ev.pos (by simp [h3]) (Ev.eq (Ev.ret _) ?_)
      exact decide_eq_decide.2 ⟨fun h => ⟨h1, h2, h3, h⟩, fun h => h.2.2.2⟩
end Go.Proofs.Ytdlaaccnaokdnaa.M
set_option linter.unusedVariables false
namespace Go.Proofs.Ytdlaaccnaokdnaa.M
open Go.RowKit Go.Proofs.Ytdlaaccnaokdnaa.P Go.Proofs.YtdlaaccnaokdnaaV.PrintWords Go.Proofs.YtdlaaccnaokdnaaV.PrintMore
/-- of the first so many of row a, those that are noted -/
def cntR (F : Int → Int → Int) (a : Int) : Nat → Int
  | 0 => 0
  | j + 1 => cntR F a j + if F a (j : Int) ≥ 0 then 1 else 0
theorem cntR_succ (F : Int → Int → Int) (a : Int) (j : Nat) : cntR F a (j + 1) = cntR F a j + if F a (j : Int) ≥ 0 then 1 else 0 := rfl
def cntA (F : Int → Int → Int) (n : Nat) : Nat → Int
  | 0 => 0
  | i + 1 => cntA F n i + cntR F (i : Int) n
theorem cntR_le (F : Int → Int → Int) (a : Int) : ∀ j, 0 ≤ cntR F a j ∧ cntR F a j ≤ j
  | 0 => ⟨Int.le_refl _, by simp [cntR]⟩
  | j + 1 => by
    have := cntR_le F a j
    unfold cntR
    split <;> omega
theorem cntA_le (F : Int → Int → Int) (n : Nat) (hn : n ≤ 8) : ∀ i, 0 ≤ cntA F n i ∧ cntA F n i ≤ 8 * i
  | 0 => ⟨Int.le_refl _, by simp [cntA]⟩
  | i + 1 => by
    have h1 := cntA_le F n hn i
    have h2 := cntR_le F (i : Int) n
    unfold cntA
    omega
/-- 0 where two tables differ, else -1 -/
def dF (F' F : Int → Int → Int) (a b : Int) : Int := if F' a b = F a b then -1 else 0
end Go.Proofs.Ytdlaaccnaokdnaa.M
