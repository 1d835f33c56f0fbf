/- RankNear on both sides. -/
import Derived.Test.YtdlaaccnaokdnaaMRankNI
import Derived.Test.YtdlaaccnaokdnaaPFSpecRanknear
set_option linter.unusedVariables false
namespace Go.Proofs.Ytdlaaccnaokdnaa.M
open Go.RowKit Go.Proofs.Ytdlaaccnaokdnaa.P Go.Proofs.YtdlaaccnaokdnaaV.PrintWords Go.Proofs.YtdlaaccnaokdnaaV.PrintMore
theorem clN_congr {K K' : Int → Int → Int} {m : Int} : ∀ (l : List Int) (d : Int → Int), (∀ b ∈ l, K m b = K' m b) → clN K m l d = clN K' m l d
  | [], d, _ => rfl
  | b :: l, d, h => by
    have e : cl1 K m d b = cl1 K' m d b := by unfold cl1; rw [h b (by simp)]
    show clN K m l (cl1 K m d b) = clN K' m l (cl1 K' m d b)
    rw [e]
    exact clN_congr l _ (fun c hc => h c (by simp [hc]))
theorem clAll_congr {K K' : Int → Int → Int} : ∀ (l : List Int) (d : Int → Int), (∀ a ∈ l, ∀ b ∈ l, K a b = K' a b) → clAll K l d = clAll K' l d
  | [], d, _ => rfl
  | m :: l, d, h => by
    show clAll K l (clN K m l d) = clAll K' l (clN K' m l d)
    rw [clN_congr l d (fun b hb => h m (by simp) b (by simp [hb]))]
    exact clAll_congr l _ (fun a ha b hb => h a (by simp [ha]) b (by simp [hb]))
theorem tb_mat {n : Nat} (C : Int → Int → Int) {a b : Int} (a0 : 0 ≤ a) (a1 : a < n) (b0 : 0 ≤ b) (b1 : b < n) : tb (mat n C) a b = C a b := rd_mat2 C a0 a1 b0 b1
theorem up_ok {n : Nat} {C : Int → Int → Int} (hC : ∀ a b, 0 ≤ C a b ∧ C a b ≤ 99999) (hn : 1 ≤ n ∧ n ≤ 8) {o : List Int} (ho : Ord o (n : Int)) {s : Int} (hs : 0 ≤ s ∧ s < (n : Int)) : UpOk o (mat n C) s := by
  have hl : o.length = n := by have := ho.1; omega
  refine ⟨by rw [hl]; exact ho, by omega, ?_, by rw [hl]; exact hs, fun r hr x hx => ?_⟩
  · rw [hl]
    exact mat_congr fun i j i0 i1 j0 j1 => (tb_mat C i0 i1 j0 j1).symm
  · obtain ⟨i, _, rfl⟩ := List.mem_map.1 hr
    obtain ⟨j, _, rfl⟩ := List.mem_map.1 hx
    exact hC _ _
theorem specUp_eq {n : Nat} {C : Int → Int → Int} (hC : ∀ a b, 0 ≤ C a b ∧ C a b ≤ 99999) (hn : 1 ≤ n ∧ n ≤ 8) {o : List Int} (ho : Ord o (n : Int)) {s : Int} (hs : 0 ≤ s ∧ s < (n : Int)) (v : List (List Int)) (back : Bool) : spec_l8Up.f o (mat n C) v s back = some (rowF n (clAll (pickK back C) o (at0 s))) := by
  have hl : o.length = n := by have := ho.1; omega
  unfold spec_l8Up.f
  rw [if_pos (up_ok hC hn ho hs), hl]
  congr 2
  refine clAll_congr o _ fun a ha b hb => ?_
  have h1 := ho.2.2 a ha
  have h2 := ho.2.2 b hb
  unfold pickK trp
  cases back
  · exact tb_mat C h1.1 h1.2 h2.1 h2.2
  · exact tb_mat C h2.1 h2.2 h1.1 h1.2
theorem specMeet_ev {n : Nat} {C : Int → Int → Int} (hC : ∀ a b, 0 ≤ C a b ∧ C a b ≤ 99999) (hn : 1 ≤ n ∧ n ≤ 8) {o : List Int} (ho : Ord o (n : Int)) {s t : Int} (hs : 0 ≤ s ∧ s < (n : Int)) (ht : 0 ≤ t ∧ t < (n : Int)) (v : List (List Int)) : Ev (fun k => spec_l8Meet.f k o (mat n C) v s t) ((near C o s t).2, (near C o s t).1) := by
  have hl : o.length = n := by have := ho.1; omega
  refine Ev.congr (G := fun k => spec_l8Meet.l0 k (rowF n (clAll C o (at0 s))) (rowF n (clAll (trp C) o (at0 t))) 99999 (-1) 0 o (mat n C) v) (fun k => ?_) ?_
  · unfold spec_l8Meet.f
    rw [specUp_eq hC hn ho hs, Option.bind_some, specUp_eq hC hn ho ht, Option.bind_some]
    rfl
  · have hu : Bx1 (clAll C o (at0 s)) := clAll_box (fun a b => (hC a b).1) o (at0_box s)
    have hv : Bx1 (clAll (trp C) o (at0 t)) := clAll_box (fun a b => (hC b a).1) o (at0_box t)
    unfold near
    generalize clAll C o (at0 s) = u at hu ⊢
    generalize clAll (trp C) o (at0 t) = w at hv ⊢
    have hm : meet o u w = fN (mt1 u w) o (99999, -1) o.length := (fN_all _ _ _).symm
    rw [hm]
    refine downto (P := fun i => Ev (fun k => spec_l8Meet.l0 k (rowF n u) (rowF n w) (fN (mt1 u w) o (99999, -1) i).1 (fN (mt1 u w) o (99999, -1) i).2 (i : Int) o (mat n C) v) ((fN (mt1 u w) o (99999, -1) o.length).2, (fN (mt1 u w) o (99999, -1) o.length).1)) (n := o.length) ?_ ?_
    · refine Ev.step (G := fun _ => some ((fN (mt1 u w) o (99999, -1) o.length).2, (fN (mt1 u w) o (99999, -1) o.length).1)) (fun k => ?_) (Ev.ret _)
      simp only [spec_l8Meet.l0]
      rw [if_neg (by omega)]
    · intro i hi h
      rw [fN_succ _ _ _ hi] at h
      have hx := ho.2.2 o[i] (List.getElem_mem hi)
      rw [rd_at0 o i hi] at h
      refine Ev.step (fun k => ?_) h
      simp only [spec_l8Meet.l0]
      rw [if_pos (by omega), if_pos (by omega), rd_at0 o i hi]
      generalize o[i] = m at hx ⊢
      generalize fN (mt1 u w) o (99999, -1) i = p
      have h1 := hu m
      have h2 := hv m
      rw [if_pos hx.1, rowF_len, if_pos hx.2, rowF_len, if_pos hx.2, rd_rowF u hx.1 hx.2, rd_rowF w hx.1 hx.2, show wrap64 (u m + w m) = u m + w m from w64 (by omega), w64s (n := i) (by omega)]
      by_cases c1 : u m < 99999
      rotate_left
      · rw [if_neg c1, mt1_no (fun h => c1 h.1)]
      rw [if_pos c1]
      by_cases c2 : w m < 99999
      rotate_left
      · rw [if_neg c2, mt1_no (fun h => c2 h.2.1)]
      rw [if_pos c2]
      by_cases c3 : u m + w m < p.1
      · rw [if_pos c3, mt1_yes ⟨c1, c2, c3⟩]
      · rw [if_neg c3, mt1_no (fun h => c3 h.2.2)]
theorem specNear_ev (n : Int) (l : List S61) (o : List Int) (c v : List (List Int)) (a b : Int) (hl : l.length ≤ 1048576) (ho : o.length ≤ 1048576) : Ev (fun k => spec_RankNear.f k n l o c v a b) (nearR n l o c v a b) := by
  refine Ev.congr (G := fun k => (spec_RankOk.f k n l o c v).bind fun t103 => (if t103 = true then ((spec_l1In.f a 0 (wrap64 (n - 1))).bind fun t104 => (if t104 = true then ((spec_l1In.f b 0 (wrap64 (n - 1))).bind fun t105 => (if t105 = true then ((spec_l8Meet.f k o c v a b).bind fun bt106 => (some (bt106.2, bt106.1))) else (some ((-1), (-1))))) else (some ((-1), (-1))))) else (some ((-1), (-1))))) (fun k => by unfold spec_RankNear.f; rfl) ?_
  refine Ev.bind (specRankOk_ev n l o c v hl ho) ?_
  unfold nearR
  by_cases h : RkOk n l o c v
  rotate_left
  · rw [if_neg (fun h2 : RkOk n l o c v ∧ _ => h h2.1)]
    exact Ev.neg (by simp [h]) (Ev.ret _)
  refine Ev.pos (by simp [h]) ?_
  rw [l1In_inB, l1In_inB]
  simp only [Option.bind_some]
  by_cases ha : inB n a = true
  rotate_left
  · rw [if_neg (fun h2 : RkOk n l o c v ∧ _ => by simp [ha] at h2)]
    exact Ev.neg ha (Ev.ret _)
  refine Ev.pos ha ?_
  by_cases hb : inB n b = true
  rotate_left
  · rw [if_neg (fun h2 : RkOk n l o c v ∧ _ => by simp [hb] at h2)]
    exact Ev.neg hb (Ev.ret _)
  refine Ev.pos hb ?_
  rw [if_pos ⟨h, by simp [ha, hb]⟩]
  obtain ⟨h1, h2, h3, h4⟩ := h
  obtain ⟨b1, b2, b3⟩ := rk_bounds h1
  obtain ⟨N, rfl⟩ := Int.eq_ofNat_of_zero_le (show 0 ≤ n by omega)
  rw [Int.toNat_natCast] at h3
  unfold inB at ha hb
  rw [w64 (by omega)] at ha hb
  simp only [Bool.and_eq_true, decide_eq_true_eq] at ha hb
  have := specMeet_ev (rkAll_bx h1 o) (n := N) (by omega) h2 (s := a) (t := b) (by omega) (by omega) v
  rw [← h3] at this
  exact Ev.bind this (Ev.ret _)
end Go.Proofs.Ytdlaaccnaokdnaa.M
