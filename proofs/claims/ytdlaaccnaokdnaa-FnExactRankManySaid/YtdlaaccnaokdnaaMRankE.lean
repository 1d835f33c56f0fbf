/- What the exact laws of hierarchies ask of rows of rows; the order's test; two tables compared. -/
import Derived.Test.YtdlaaccnaokdnaaMRankG
import Derived.Test.YtdlaaccnaokdnaaHPerm
import Derived.Test.YtdlaaccnaokdnaaHSame
import Derived.Test.YtdlaaccnaokdnaaMHelp
import Derived.Test.YtdlaaccnaokdnaaMNetOk
import Derived.Test.YtdlaaccnaokdnaaPFLawsTorank
import Derived.Test.YtdlaaccnaokdnaaPFLawsSzrank
import Derived.Test.YtdlaaccnaokdnaaPFLawsEqrank
import Derived.Test.YtdlaaccnaokdnaaPFSpecL8Order
import Derived.Test.YtdlaaccnaokdnaaPFSpecL8Same
set_option linter.unusedVariables false
namespace Go.Proofs.Ytdlaaccnaokdnaa.P
open Go.RowKit Go.Proofs.YtdlaaccnaokdnaaV.PrintWords Go.Proofs.YtdlaaccnaokdnaaV.PrintMore
theorem rows_len {W : World} {A : Option Addr} {xs : List (List Int)} (h : Kd.C (Kd.slice 3 (Kd.int .i64)) W A xs.length xs) : ∀ y ∈ xs, y.length ≤ 9223372036854775807 := by
  intro y hy
  obtain ⟨i, hi, rfl⟩ := List.getElem_of_mem hy
  obtain ⟨ad, A0, c0, e, hx, hl, hc⟩ := at_L5 h (i : Int) (by omega) (by omega)
  have e2 : rd_L5 xs (i : Int) = xs[i] := by simp [rd_L5, List.getD, hi]
  rw [e2] at hc
  exact hc.2.1
end Go.Proofs.Ytdlaaccnaokdnaa.P
namespace Go.Proofs.Ytdlaaccnaokdnaa.M
open Go.RowKit Go.Proofs.Ytdlaaccnaokdnaa.P Go.Proofs.YtdlaaccnaokdnaaV.PrintWords Go.Proofs.YtdlaaccnaokdnaaV.PrintMore
theorem rdL5_at (g : List (List Int)) (i : Nat) (hi : i < g.length) : rd_L5 g (i : Int) = g[i] := by simp [rd_L5, List.getD, hi]
/-- so few rows, each so short -/
def Few (g : List (List Int)) : Prop := g.length ≤ 1048576 ∧ ∀ r ∈ g, r.length ≤ 1048576
theorem toIntSS_self {g : List (List Int)} (hg : Few g) : Ev (fun k => laws_toIntSS.f k g) g := by
  have hg1 := hg.1
  refine Ev.congr (G := fun k => laws_toIntSS.l0 k g (List.replicate g.length []) 0) (fun k => by unfold laws_toIntSS.f; rw [if_pos (by omega), if_pos (by omega), Int.toNat_natCast]) ?_
  have key : ∀ i, i ≤ g.length → (g.take i ++ List.replicate (g.length - i) []).length = g.length := fun i hi => by simp; omega
  refine downto (P := fun i => Ev (fun k => laws_toIntSS.l0 k g (g.take i ++ List.replicate (g.length - i) []) (i : Int)) g) (n := g.length) ?_ ?_
  · refine Ev.step (G := fun _ => some g) (fun k => ?_) (Ev.ret _)
    simp only [laws_toIntSS.l0]
    rw [if_neg (by omega), List.take_length, Nat.sub_self, List.replicate_zero, List.append_nil]
  · intro i hi h
    refine Ev.step (G := fun k => (laws_toIntS.f k g[i]).bind fun t105 => laws_toIntSS.l0 k g ((g.take i ++ List.replicate (g.length - i) []).set i t105) ((i + 1 : Nat) : Int)) (fun k => ?_) ?_
    · simp only [laws_toIntSS.l0]
      rw [if_pos (by omega), if_pos (by omega), rdL5_at g i hi, w64s (by omega), Int.toNat_natCast]
      congr 1
      funext t
      rw [if_pos (by rw [key i (by omega)]; omega)]
    · refine Ev.bind (toIntS_self _ (hg.2 _ (List.getElem_mem hi))) ?_
      have e : (g.take i ++ List.replicate (g.length - i) []).set i g[i] = g.take (i + 1) ++ List.replicate (g.length - (i + 1)) [] := by
        rw [show g.length - i = (g.length - (i + 1)) + 1 from by omega, List.replicate_succ, List.set_append_right _ _ (by rw [List.length_take]; omega), List.length_take, Nat.min_eq_left (by omega), Nat.sub_self, List.set_cons_zero, List.take_succ_eq_append_getElem hi, List.append_assoc]
        rfl
      rw [e]
      exact h
theorem toRank_self {o : List Int} {c v : List (List Int)} (ho : o.length ≤ 1048576) (hc : Few c) (hv : Few v) : Ev (fun k => laws_toRank.f k o c v) (o, c, v) := by
  refine Ev.congr (G := fun k => (laws_toIntS.f k o).bind fun t104 => ((laws_toIntSS.f k c).bind fun t107 => ((laws_toIntSS.f k v).bind fun t110 => (some (t104, t107, t110))))) (fun k => by unfold laws_toRank.f; rfl) ?_
  exact Ev.bind (toIntS_self o ho) (Ev.bind (toIntSS_self hc) (Ev.bind (toIntSS_self hv) (Ev.ret _)))
theorem szIntS_ev (l : List Int) (a : Int) (ha : 0 ≤ a ∧ a ≤ 1048576) (hl : l.length ≤ 9223372036854775807) : laws_szIntS.f l a = some (if (l.length : Int) ≤ a then a - l.length else -1) := by
  have hw : wrap64 (a - (l.length : Int)) = a - (l.length : Int) := by unfold wrap64; omega
  unfold laws_szIntS.f
  rw [hw]
  by_cases h : (l.length : Int) ≤ a
  · rw [if_neg (by omega), if_pos h]
  · rw [if_pos (by omega), if_neg h]
theorem szIntSS_ev (g : List (List Int)) (a : Int) (ha : 0 ≤ a ∧ a ≤ 1048576) (hl : g.length ≤ 9223372036854775807) (hr : ∀ r ∈ g, r.length ≤ 9223372036854775807) : ∃ t : Int, Ev (fun k => laws_szIntSS.f k g a) t ∧ t ≤ a ∧ (0 ≤ t → Few g) := by
  have hw : wrap64 (a - (g.length : Int)) = a - (g.length : Int) := by unfold wrap64; omega
  by_cases h : (g.length : Int) ≤ a
  rotate_left
  · refine ⟨-1, Ev.congr (G := fun _ => some (-1)) (fun k => by unfold laws_szIntSS.f; rw [hw, if_pos (by omega)]) (Ev.ret _), by omega, fun h => by omega⟩
  have key : ∀ (d i : Nat), i + d = g.length → ∀ b : Int, 0 ≤ b → b ≤ a → (∀ r ∈ g.take i, r.length ≤ 1048576) → ∃ t : Int, Ev (fun k => laws_szIntSS.l0 k g b (i : Int)) t ∧ t ≤ a ∧ (0 ≤ t → ∀ r ∈ g, r.length ≤ 1048576) := by
    intro d
    induction d with
    | zero =>
      intro i hi b h0 h1 hall
      refine ⟨b, Ev.step (G := fun _ => some b) (fun k => ?_) (Ev.ret _), h1, fun _ => ?_⟩
      · simp only [laws_szIntSS.l0]; rw [if_neg (by omega)]
      · rwa [List.take_of_length_le (by omega)] at hall
    | succ d ih =>
      intro i hi b h0 h1 hall
      have hii : i < g.length := by omega
      have hsz := szIntS_ev g[i] b ⟨h0, by omega⟩ (hr _ (List.getElem_mem hii))
      by_cases hb : (g[i].length : Int) ≤ b
      · rw [if_pos hb] at hsz
        obtain ⟨t, h2, h3, h4⟩ := ih (i + 1) (by omega) (b - g[i].length) (by omega) (by omega) (fun r hr => by
          rw [List.take_succ_eq_append_getElem hii] at hr
          rcases List.mem_append.1 hr with hr | hr
          · exact hall r hr
          · rw [List.mem_singleton.1 hr]; omega)
        refine ⟨t, Ev.step (fun k => ?_) h2, h3, h4⟩
        simp only [laws_szIntSS.l0]
        rw [if_pos (by omega), if_pos (by omega), rdL5_at g i hii, hsz, Option.bind_some, if_neg (by omega), w64s (by omega)]
      · rw [if_neg hb] at hsz
        refine ⟨-1, Ev.step (G := fun _ => some (-1)) (fun k => ?_) (Ev.ret _), by omega, fun h => by omega⟩
        simp only [laws_szIntSS.l0]
        rw [if_pos (by omega), if_pos (by omega), rdL5_at g i hii, hsz, Option.bind_some, if_pos (by omega)]
  obtain ⟨t, h2, h3, h4⟩ := key g.length 0 (by omega) (a - g.length) (by omega) (by omega) (fun r hr => by simp at hr)
  refine ⟨t, Ev.congr (fun k => by unfold laws_szIntSS.f; rw [hw, if_neg (by omega)]; rfl) h2, h3, fun h5 => ⟨by omega, h4 h5⟩⟩
theorem szRank_ev (o : List Int) (c v : List (List Int)) (a : Int) (ha : 0 ≤ a ∧ a ≤ 1048576) (ho : o.length ≤ 9223372036854775807) (hc : c.length ≤ 9223372036854775807) (hcr : ∀ r ∈ c, r.length ≤ 9223372036854775807) (hv : v.length ≤ 9223372036854775807) (hvr : ∀ r ∈ v, r.length ≤ 9223372036854775807) :
    ∃ t : Int, Ev (fun k => laws_szRank.f k o c v a) t ∧ t ≤ a ∧ (0 ≤ t → o.length ≤ 1048576 ∧ Few c ∧ Few v) := by
  have h1 := szIntS_ev o a ha ho
  by_cases ho2 : (o.length : Int) ≤ a
  rotate_left
  · rw [if_neg ho2] at h1
    exact ⟨-1, Ev.congr (G := fun _ => some (-1)) (fun k => by unfold laws_szRank.f; rw [h1, Option.bind_some, if_pos (by omega)]) (Ev.ret _), by omega, fun h => by omega⟩
  rw [if_pos ho2] at h1
  obtain ⟨t, h2, h3, h4⟩ := szIntSS_ev c (a - o.length) (by omega) hc hcr
  by_cases ht : t < 0
  · refine ⟨-1, Ev.congr (fun k => by unfold laws_szRank.f; rw [h1, Option.bind_some, if_neg (by omega)]) (Ev.bind h2 (Ev.pos ht (Ev.ret _))), by omega, fun h => by omega⟩
  obtain ⟨u, h5, h6, h7⟩ := szIntSS_ev v t (by omega) hv hvr
  by_cases hu : u < 0
  · refine ⟨-1, Ev.congr (fun k => by unfold laws_szRank.f; rw [h1, Option.bind_some, if_neg (by omega)]) (Ev.bind h2 (Ev.neg ht (Ev.bind h5 (Ev.pos hu (Ev.ret _))))), by omega, fun h => by omega⟩
  refine ⟨u, Ev.congr (fun k => by unfold laws_szRank.f; rw [h1, Option.bind_some, if_neg (by omega)]) (Ev.bind h2 (Ev.neg ht (Ev.bind h5 (Ev.neg hu (Ev.ret _))))), by omega, fun h => ⟨by omega, h4 (by omega), h7 (by omega)⟩⟩
theorem eqIntSS_self {g : List (List Int)} (hg : Few g) : Ev (fun k => laws_eqIntSS.f k g g) true := by
  have hg1 := hg.1
  refine Ev.congr (G := fun k => laws_eqIntSS.l0 k g g 0) (fun k => by unfold laws_eqIntSS.f; rw [if_pos rfl]) ?_
  refine downto (P := fun i => Ev (fun k => laws_eqIntSS.l0 k g g (i : Int)) true) (n := g.length) ?_ ?_
  · refine Ev.step (G := fun _ => some true) (fun k => ?_) (Ev.ret _)
    simp only [laws_eqIntSS.l0]
    rw [if_neg (by omega)]
  · intro i hi h
    refine Ev.step (G := fun k => (laws_eqIntS.f k (rd_L5 g (i : Int)) (rd_L5 g (i : Int))).bind fun t103 => (if t103 = true then (laws_eqIntSS.l0 k g g ((i + 1 : Nat) : Int)) else (some false))) (fun k => ?_) ?_
    · simp only [laws_eqIntSS.l0]
      rw [if_pos (by omega), if_pos (by omega), if_pos (by omega), w64s (by omega)]
    · refine Ev.bind (eqIntS_self _ ?_) (Ev.pos rfl h)
      rw [rdL5_at g i hi]
      have := hg.2 _ (List.getElem_mem hi)
      omega
theorem eqRank_self {o : List Int} {c v : List (List Int)} (ho : o.length ≤ 1048576) (hc : Few c) (hv : Few v) : Ev (fun k => laws_eqRank.f k o c v o c v) true := by
  refine Ev.congr (G := fun k => (laws_eqIntS.f k o o).bind fun t103 => (if t103 = true then ((laws_eqIntSS.f k c c).bind fun t104 => (if t104 = true then ((laws_eqIntSS.f k v v).bind fun t105 => (if t105 = true then (some true) else (some false))) else (some false))) else (some false))) (fun k => by unfold laws_eqRank.f; rfl) ?_
  exact Ev.bind (eqIntS_self o (by omega)) (Ev.pos rfl (Ev.bind (eqIntSS_self hc) (Ev.pos rfl (Ev.bind (eqIntSS_self hv) (Ev.pos rfl (Ev.ret _))))))
/-- the reference's test of an order -/
theorem l8Order_ev (l : List Int) (n : Int) (hl : l.length ≤ 1048576) (hn : 1 ≤ n ∧ n ≤ 8) : Ev (fun k => spec_l8Order.f k l n) (decide (Ord l n)) := by
  have hw : wrap64 (n - 1) = n - 1 := by unfold wrap64; omega
  show Ev (fun k => spec_l8Order.l0 k l n 0) _
  have key : ∀ (d i : Nat), i + d = l.length → (l.take i).Nodup → (∀ x ∈ l.take i, 0 ≤ x ∧ x < n) → Ev (fun k => spec_l8Order.l0 k l n (i : Int)) (decide (Ord l n)) := by
    intro d
    induction d with
    | zero =>
      intro i hi hnd hin
      rw [List.take_of_length_le (by omega)] at hnd hin
      refine Ev.step (G := fun _ => some (decide (Ord l n))) (fun k => ?_) (Ev.ret _)
      simp only [spec_l8Order.l0]
      rw [if_neg (by omega)]
      have : Ord l n ↔ (l.length : Int) = n := ⟨fun h => h.1, fun h => ⟨h, hnd, hin⟩⟩
      rw [decide_eq_decide.2 this]
      rfl
    | succ d ih =>
      intro i hi hnd hin
      have hii : i < l.length := by omega
      have hmem := List.getElem_mem hii
      by_cases hx : 0 ≤ l[i] ∧ l[i] < n
      rotate_left
      · have hno : ¬ Ord l n := fun h => hx (h.2.2 _ hmem)
        rw [decide_eq_false hno]
        refine Ev.step (G := fun _ => some false) (fun k => ?_) (Ev.ret _)
        simp only [spec_l8Order.l0]
        rw [if_pos (by omega), if_pos (by omega), rd_at0 l i hii, hw, l1In_le, Option.bind_some, if_neg (by simp; omega)]
      refine Ev.step (G := fun k => spec_l8Order.l1 k l n (i : Int) 0) (fun k => ?_) ?_
      · simp only [spec_l8Order.l0]
        rw [if_pos (by omega), if_pos (by omega), rd_at0 l i hii, hw, l1In_le, Option.bind_some, if_pos (by simp; omega)]
      · have key2 : ∀ (u j : Nat), j + u = i → (∀ m (hm : m < l.length), m < j → l[m] ≠ l[i]) → Ev (fun k => spec_l8Order.l1 k l n (i : Int) (j : Int)) (decide (Ord l n)) := by
          intro u
          induction u with
          | zero =>
            intro j hj hall
            obtain rfl : j = i := by omega
            have hnd2 : (l.take (j + 1)).Nodup := by
              rw [List.take_succ_eq_append_getElem hii, List.nodup_append]
              refine ⟨hnd, by simp, fun a ha b hb e => ?_⟩
              rw [List.mem_singleton.1 hb] at e
              obtain ⟨m, hm, hm2⟩ := List.getElem_of_mem ha
              rw [List.length_take] at hm
              rw [List.getElem_take] at hm2
              exact hall m (by omega) (by omega) (hm2.trans e)
            have hin2 : ∀ x ∈ l.take (j + 1), 0 ≤ x ∧ x < n := by
              intro x hx2
              rw [List.take_succ_eq_append_getElem hii] at hx2
              rcases List.mem_append.1 hx2 with h | h
              · exact hin x h
              · rw [List.mem_singleton.1 h]; exact hx
            refine Ev.step (fun k => ?_) (ih (j + 1) (by omega) hnd2 hin2)
            simp only [spec_l8Order.l1]
            rw [if_neg (by omega), w64s (by omega)]
          | succ u ihu =>
            intro j hj hall
            have hjl : j < l.length := by omega
            by_cases he : l[j] = l[i]
            · have hno : ¬ Ord l n := fun h => by
                have := List.pairwise_iff_getElem.1 h.2.1 j i hjl hii (by omega)
                exact this he
              rw [decide_eq_false hno]
              refine Ev.step (G := fun _ => some false) (fun k => ?_) (Ev.ret _)
              simp only [spec_l8Order.l1]
              rw [if_pos (by omega), if_pos (by omega), if_pos (by omega), if_pos (by omega), if_pos (by omega), rd_at0 l i hii, rd_at0 l j hjl, if_pos he]
            · refine Ev.step (fun k => ?_) (ihu (j + 1) (by omega) (fun m hm hmj => by
                rcases Nat.lt_or_ge m j with h | h
                · exact hall m hm h
                · have e : m = j := by omega
                  subst e; exact he))
              simp only [spec_l8Order.l1]
              rw [if_pos (by omega), if_pos (by omega), if_pos (by omega), if_pos (by omega), if_pos (by omega), rd_at0 l i hii, rd_at0 l j hjl, if_neg he, w64s (by omega)]
        exact key2 i 0 (by omega) (fun m _ h => absurd h (Nat.not_lt_zero m))
  exact key l.length 0 (by omega) (by simp) (by simp)
/-- the reference's comparison of tables -/
theorem l8Grids_ev (a b : List (List Int)) (ha : Few a) : Ev (fun k => spec_l8Grids.f k a b) (decide (a = b)) := by
  have ha1 := ha.1
  by_cases hl : (a.length : Int) = (b.length : Int)
  rotate_left
  · have hne : ¬ a = b := fun e => hl (by rw [e])
    rw [decide_eq_false hne]
    exact Ev.congr (G := fun _ => some false) (fun k => by unfold spec_l8Grids.f; rw [if_neg hl]) (Ev.ret _)
  have hl2 : a.length = b.length := by omega
  refine Ev.congr (G := fun k => spec_l8Grids.l0 k a b 0) (fun k => by unfold spec_l8Grids.f; rw [if_pos hl]) ?_
  have key : ∀ (d i : Nat), i + d = a.length → a.take i = b.take i → Ev (fun k => spec_l8Grids.l0 k a b (i : Int)) (decide (a = b)) := by
    intro d
    induction d with
    | zero =>
      intro i hi ht
      have e : a = b := by rwa [List.take_of_length_le (by omega), List.take_of_length_le (by omega)] at ht
      rw [decide_eq_true e]
      refine Ev.step (G := fun _ => some true) (fun k => ?_) (Ev.ret _)
      simp only [spec_l8Grids.l0]
      rw [if_neg (by omega)]
    | succ d ih =>
      intro i hi ht
      have hia : i < a.length := by omega
      have hib : i < b.length := by omega
      have hrow := ha.2 _ (List.getElem_mem hia)
      by_cases hr : (a[i].length : Int) = (b[i].length : Int)
      rotate_left
      · have hne : ¬ a = b := fun e => hr (by subst e; rfl)
        rw [decide_eq_false hne]
        refine Ev.step (G := fun _ => some false) (fun k => ?_) (Ev.ret _)
        simp only [spec_l8Grids.l0]
        rw [if_pos (by omega), if_pos (by omega), if_pos (by omega), rdL5_at a i hia, rdL5_at b i hib, if_neg hr]
      have hr2 : a[i].length = b[i].length := by omega
      refine Ev.step (G := fun k => spec_l8Grids.l1 k a b (i : Int) 0) (fun k => ?_) ?_
      · simp only [spec_l8Grids.l0]
        rw [if_pos (by omega), if_pos (by omega), if_pos (by omega), rdL5_at a i hia, rdL5_at b i hib, if_pos hr]
      · have key2 : ∀ (u j : Nat), j + u = a[i].length → (a[i]).take j = (b[i]).take j → Ev (fun k => spec_l8Grids.l1 k a b (i : Int) (j : Int)) (decide (a = b)) := by
          intro u
          induction u with
          | zero =>
            intro j hj hp
            have e : a[i] = b[i] := by rwa [List.take_of_length_le (by omega), List.take_of_length_le (by omega)] at hp
            refine Ev.step (fun k => ?_) (ih (i + 1) (by omega) (by rw [List.take_succ_eq_append_getElem hia, List.take_succ_eq_append_getElem hib, ht, e]))
            simp only [spec_l8Grids.l1]
            rw [if_pos (by omega), if_pos (by omega), rdL5_at a i hia, if_neg (by omega), w64s (by omega)]
          | succ u ihu =>
            intro j hj hp
            have hja : j < a[i].length := by omega
            have hjb : j < b[i].length := by omega
            by_cases he : a[i][j] = b[i][j]
            · refine Ev.step (fun k => ?_) (ihu (j + 1) (by omega) (by rw [List.take_succ_eq_append_getElem hja, List.take_succ_eq_append_getElem hjb, hp, he]))
              simp only [spec_l8Grids.l1]
              rw [if_pos (by omega), if_pos (by omega), rdL5_at a i hia, if_pos (by omega), if_pos (by omega), if_pos (by omega), rdL5_at b i hib, if_pos (by omega), rd_at0 _ j hja, rd_at0 _ j hjb, if_pos he, w64s (by omega)]
            · have hne : ¬ a = b := fun e => he (by subst e; rfl)
              rw [decide_eq_false hne]
              refine Ev.step (G := fun _ => some false) (fun k => ?_) (Ev.ret _)
              simp only [spec_l8Grids.l1]
              rw [if_pos (by omega), if_pos (by omega), rdL5_at a i hia, if_pos (by omega), if_pos (by omega), if_pos (by omega), rdL5_at b i hib, if_pos (by omega), rd_at0 _ j hja, rd_at0 _ j hjb, if_neg he]
        exact key2 a[i].length 0 (by omega) (by simp)
  exact key a.length 0 (by omega) (by simp)
end Go.Proofs.Ytdlaaccnaokdnaa.M
