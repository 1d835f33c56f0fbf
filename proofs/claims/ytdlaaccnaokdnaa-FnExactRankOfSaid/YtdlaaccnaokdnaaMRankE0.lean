/- The reference's test of an order; two tables compared. -/
import Derived.Test.YtdlaaccnaokdnaaMRankD
import Derived.Test.YtdlaaccnaokdnaaMNetOk
import Derived.Test.YtdlaaccnaokdnaaPFSpecL8Order
import Derived.Test.YtdlaaccnaokdnaaGSame
set_option linter.unusedVariables false
namespace Go.Proofs.Ytdlaaccnaokdnaa.M
open Go.RowKit Go.Proofs.Ytdlaaccnaokdnaa.P Go.Proofs.YtdlaaccnaokdnaaV.PrintWords Go.Proofs.YtdlaaccnaokdnaaV.PrintMore
theorem rdL5_at (g : List (List Int)) (i : Nat) (hi : i < g.length) : rd_L5 g (i : Int) = g[i] := by simp [rd_L5, List.getD, hi]
/-- so few rows, each so short -/
def Few (g : List (List Int)) : Prop := g.length ≤ 1048576 ∧ ∀ r ∈ g, r.length ≤ 1048576
/-- the reference's test of an order -/
theorem l8Order_ev (l : List Int) (n : Int) (hl : l.length ≤ 1048576) (hn : 1 ≤ n ∧ n ≤ 8) : Ev (fun k => spec_l8Order.f k l n) (decide (Ord l n)) := by
  have hw : wrap64 (n - 1) = n - 1 := by unfold wrap64; omega
  show Ev (fun k => spec_l8Order.l0 k l n 0) _
  have key : ∀ (d i : Nat), i + d = l.length → (l.take i).Nodup → (∀ x ∈ l.take i, 0 ≤ x ∧ x < n) → Ev (fun k => spec_l8Order.l0 k l n (i : Int)) (decide (Ord l n)) := by
    intro d
    induction d with
    | zero =>
      intro i hi hnd hin
      rw [List.take_of_length_le (by omega)] at hnd hin
      refine Ev.step (G := fun _ => some (decide (Ord l n))) (fun k => ?_) (Ev.ret _)
      simp only [spec_l8Order.l0]
      rw [if_neg (by omega)]
      have : Ord l n ↔ (l.length : Int) = n := ⟨fun h => h.1, fun h => ⟨h, hnd, hin⟩⟩
      rw [decide_eq_decide.2 this]
      rfl
    | succ d ih =>
      intro i hi hnd hin
      have hii : i < l.length := by omega
      have hmem := List.getElem_mem hii
      by_cases hx : 0 ≤ l[i] ∧ l[i] < n
      rotate_left
      · have hno : ¬ Ord l n := fun h => hx (h.2.2 _ hmem)
        rw [decide_eq_false hno]
        refine Ev.step (G := fun _ => some false) (fun k => ?_) (Ev.ret _)
        simp only [spec_l8Order.l0]
        rw [if_pos (by omega), if_pos (by omega), rd_at0 l i hii, hw, l1In_le, Option.bind_some, if_neg (by simp; omega)]
      refine Ev.step (G := fun k => spec_l8Order.l1 k l n (i : Int) 0) (fun k => ?_) ?_
      · simp only [spec_l8Order.l0]
        rw [if_pos (by omega), if_pos (by omega), rd_at0 l i hii, hw, l1In_le, Option.bind_some, if_pos (by simp; omega)]
      · have key2 : ∀ (u j : Nat), j + u = i → (∀ m (hm : m < l.length), m < j → l[m] ≠ l[i]) → Ev (fun k => spec_l8Order.l1 k l n (i : Int) (j : Int)) (decide (Ord l n)) := by
          intro u
          induction u with
          | zero =>
            intro j hj hall
            obtain rfl : j = i := by omega
            have hnd2 : (l.take (j + 1)).Nodup := by
              rw [List.take_succ_eq_append_getElem hii, List.nodup_append]
              refine ⟨hnd, by simp, fun a ha b hb e => ?_⟩
              rw [List.mem_singleton.1 hb] at e
              obtain ⟨m, hm, hm2⟩ := List.getElem_of_mem ha
              rw [List.length_take] at hm
              rw [List.getElem_take] at hm2
              exact hall m (by omega) (by omega) (hm2.trans e)
            have hin2 : ∀ x ∈ l.take (j + 1), 0 ≤ x ∧ x < n := by
              intro x hx2
              rw [List.take_succ_eq_append_getElem hii] at hx2
              rcases List.mem_append.1 hx2 with h | h
              · exact hin x h
              · rw [List.mem_singleton.1 h]; exact hx
            refine Ev.step (fun k => ?_) (ih (j + 1) (by omega) hnd2 hin2)
            simp only [spec_l8Order.l1]
            rw [if_neg (by omega), w64s (by omega)]
          | succ u ihu =>
            intro j hj hall
            have hjl : j < l.length := by omega
            by_cases he : l[j] = l[i]
            · have hno : ¬ Ord l n := fun h => by
                have := List.pairwise_iff_getElem.1 h.2.1 j i hjl hii (by omega)
                exact this he
              rw [decide_eq_false hno]
              refine Ev.step (G := fun _ => some false) (fun k => ?_) (Ev.ret _)
              simp only [spec_l8Order.l1]
              rw [if_pos (by omega), if_pos (by omega), if_pos (by omega), if_pos (by omega), if_pos (by omega), rd_at0 l i hii, rd_at0 l j hjl, if_pos he]
            · refine Ev.step (fun k => ?_) (ihu (j + 1) (by omega) (fun m hm hmj => by
                rcases Nat.lt_or_ge m j with h | h
                · exact hall m hm h
                · have e : m = j := by omega
                  subst e; exact he))
              simp only [spec_l8Order.l1]
              rw [if_pos (by omega), if_pos (by omega), if_pos (by omega), if_pos (by omega), if_pos (by omega), rd_at0 l i hii, rd_at0 l j hjl, if_neg he, w64s (by omega)]
        exact key2 i 0 (by omega) (fun m _ h => absurd h (Nat.not_lt_zero m))
  exact key l.length 0 (by omega) (by simp) (by simp)
/-- the reference's comparison of tables -/
theorem l8Grids_ev (a b : List (List Int)) (ha : Few a) : Ev (fun k => spec_l8Grids.f k a b) (decide (a = b)) := by
  have ha1 := ha.1
  by_cases hl : (a.length : Int) = (b.length : Int)
  rotate_left
  · have hne : ¬ a = b := fun e => hl (by rw [e])
    rw [decide_eq_false hne]
    exact Ev.congr (G := fun _ => some false) (fun k => by unfold spec_l8Grids.f; rw [if_neg hl]) (Ev.ret _)
  have hl2 : a.length = b.length := by omega
  refine Ev.congr (G := fun k => spec_l8Grids.l0 k a b 0) (fun k => by unfold spec_l8Grids.f; rw [if_pos hl]) ?_
  have key : ∀ (d i : Nat), i + d = a.length → a.take i = b.take i → Ev (fun k => spec_l8Grids.l0 k a b (i : Int)) (decide (a = b)) := by
    intro d
    induction d with
    | zero =>
      intro i hi ht
      have e : a = b := by rwa [List.take_of_length_le (by omega), List.take_of_length_le (by omega)] at ht
      rw [decide_eq_true e]
      refine Ev.step (G := fun _ => some true) (fun k => ?_) (Ev.ret _)
      simp only [spec_l8Grids.l0]
      rw [if_neg (by omega)]
    | succ d ih =>
      intro i hi ht
      have hia : i < a.length := by omega
      have hib : i < b.length := by omega
      have hrow := ha.2 _ (List.getElem_mem hia)
      by_cases hr : (a[i].length : Int) = (b[i].length : Int)
      rotate_left
      · have hne : ¬ a = b := fun e => hr (by subst e; rfl)
        rw [decide_eq_false hne]
        refine Ev.step (G := fun _ => some false) (fun k => ?_) (Ev.ret _)
        simp only [spec_l8Grids.l0]
        rw [if_pos (by omega), if_pos (by omega), if_pos (by omega), rdL5_at a i hia, rdL5_at b i hib, if_neg hr]
      have hr2 : a[i].length = b[i].length := by omega
      refine Ev.step (G := fun k => spec_l8Grids.l1 k a b (i : Int) 0) (fun k => ?_) ?_
      · simp only [spec_l8Grids.l0]
        rw [if_pos (by omega), if_pos (by omega), if_pos (by omega), rdL5_at a i hia, rdL5_at b i hib, if_pos hr]
      · have key2 : ∀ (u j : Nat), j + u = a[i].length → (a[i]).take j = (b[i]).take j → Ev (fun k => spec_l8Grids.l1 k a b (i : Int) (j : Int)) (decide (a = b)) := by
          intro u
          induction u with
          | zero =>
            intro j hj hp
            have e : a[i] = b[i] := by rwa [List.take_of_length_le (by omega), List.take_of_length_le (by omega)] at hp
            refine Ev.step (fun k => ?_) (ih (i + 1) (by omega) (by rw [List.take_succ_eq_append_getElem hia, List.take_succ_eq_append_getElem hib, ht, e]))
            simp only [spec_l8Grids.l1]
            rw [if_pos (by omega), if_pos (by omega), rdL5_at a i hia, if_neg (by omega), w64s (by omega)]
          | succ u ihu =>
            intro j hj hp
            have hja : j < a[i].length := by omega
            have hjb : j < b[i].length := by omega
            by_cases he : a[i][j] = b[i][j]
            · refine Ev.step (fun k => ?_) (ihu (j + 1) (by omega) (by rw [List.take_succ_eq_append_getElem hja, List.take_succ_eq_append_getElem hjb, hp, he]))
              simp only [spec_l8Grids.l1]
              rw [if_pos (by omega), if_pos (by omega), rdL5_at a i hia, if_pos (by omega), if_pos (by omega), if_pos (by omega), rdL5_at b i hib, if_pos (by omega), rd_at0 _ j hja, rd_at0 _ j hjb, if_pos he, w64s (by omega)]
            · have hne : ¬ a = b := fun e => he (by subst e; rfl)
              rw [decide_eq_false hne]
              refine Ev.step (G := fun _ => some false) (fun k => ?_) (Ev.ret _)
              simp only [spec_l8Grids.l1]
              rw [if_pos (by omega), if_pos (by omega), rdL5_at a i hia, if_pos (by omega), if_pos (by omega), if_pos (by omega), rdL5_at b i hib, if_pos (by omega), rd_at0 _ j hja, rd_at0 _ j hjb, if_neg he]
        exact key2 a[i].length 0 (by omega) (by simp)
  exact key a.length 0 (by omega) (by simp)
end Go.Proofs.Ytdlaaccnaokdnaa.M
