/- FnRankOrders is true of every code: of a drawn net that is ok and an order, by the order and by the same turned round it costs the same from each node to each. -/
import Derived.Test.YtdlaaccnaokdnaaPFLawsFnrankorders
import Derived.Test.YtdlaaccnaokdnaaMRankR
import Derived.Test.YtdlaaccnaokdnaaMRankNI
import Derived.Test.YtdlaaccnaokdnaaMRankX
set_option linter.unusedVariables false
namespace Go.Proofs.Ytdlaaccnaokdnaa.Pure
open Go.RowKit Go.Proofs.Ytdlaaccnaokdnaa.P Go.Proofs.Ytdlaaccnaokdnaa.M
open Go.Proofs.YtdlaaccnaokdnaaV.PrintWords (rd)
theorem ord_rev {o : List Int} {n : Int} (h : Ord o n) : Ord o.reverse n := ⟨by rw [List.length_reverse]; exact h.1, (List.reverse_perm o).nodup_iff.2 h.2.1, fun x hx => h.2.2 x (List.mem_reverse.1 hx)⟩
theorem FnRankOrders : laws_FnRankOrders.Pure := by
  intro c _ hl hw
  by_cases hC : (c.length : Int) > 1048576
  · exact ⟨0, by unfold laws_FnRankOrders.f; rw [if_pos hC]⟩
  apply Ev.get
  unfold laws_FnRankOrders.f
  refine Ev.neg hC ?_
  obtain ⟨n, l, o, hd, l0, o0⟩ := drawRankOf_ev (by omega) hw
  have hi := implRankOf_eq n l o (by omega)
  have hs := specRankOf_ev n l o (by omega) (by omega)
  obtain ⟨f1, f2, f3⟩ := rkOf_few n l o (by omega)
  have hwk := wkRank_self f1 f2 f3
  refine Ev.bind hd (Ev.bind (Ev.of fun _ => hi) (Ev.bind hs (Ev.bind hwk (Ev.pos rfl ?_))))
  by_cases h : netOkB n l = true ∧ Ord o n
  rotate_left
  · have e : rkOf n l o = ([], [], []) := if_neg h
    refine Ev.step (G := fun k => (spec_RankOf.f k n l o).bind fun bt129 => ((laws_wkRank.f k (rkOf n l o).1 (rkOf n l o).2.1 (rkOf n l o).2.2 bt129.1 bt129.2.1 bt129.2.2).bind fun t138 => (some t138))) (fun k => ?_) ?_
    · simp only [laws_FnRankOrders.j0]
      rw [if_pos (by rw [e]; rfl)]
    · exact Ev.bind hs (Ev.bind hwk (Ev.ret _))
  obtain ⟨h1, h2⟩ := h
  have h3 := ord_rev h2
  have e : rkOf n l o = (o, mat n.toNat (rkAll o (arcS l)).1, mat n.toNat (rkAll o (arcS l)).2) := if_pos ⟨h1, h2⟩
  have e2 : rkOf n l o.reverse = (o.reverse, mat n.toNat (rkAll o.reverse (arcS l)).1, mat n.toNat (rkAll o.reverse (arcS l)).2) := if_pos ⟨h1, h3⟩
  obtain ⟨b1, b2, b3⟩ := rk_bounds h1
  have hol := h2.1
  have hi2 := implRankOf_eq n l o.reverse (by rw [List.length_reverse]; omega)
  rw [e]
  rw [e2] at hi2
  have hr1 : RkOk n l o (mat n.toNat (rkAll o (arcS l)).1) (mat n.toNat (rkAll o (arcS l)).2) := ⟨h1, h2, rfl, rfl⟩
  have hr2 : RkOk n l o.reverse (mat n.toNat (rkAll o.reverse (arcS l)).1) (mat n.toNat (rkAll o.reverse (arcS l)).2) := ⟨h1, h3, rfl, rfl⟩
  obtain ⟨DS, hDS⟩ := dist_fun h1
  have hD := fun a ha => (hDS a ha).2
  have hn1 : ∀ a b : Int, 0 ≤ a → a < n → 0 ≤ b → b < n → (nearR n l o (mat n.toNat (rkAll o (arcS l)).1) (mat n.toNat (rkAll o (arcS l)).2) a b).1 = rd (DS a) b := by
    intro a b a0 a1 c0 c1
    unfold nearR
    rw [if_pos ⟨hr1, by unfold inB; rw [w64 (by omega)]; simp; omega⟩]
    exact near_dist h1 hD h2 ⟨a0, a1⟩ ⟨c0, c1⟩
  have hn2 : ∀ a b : Int, 0 ≤ a → a < n → 0 ≤ b → b < n → (nearR n l o.reverse (mat n.toNat (rkAll o.reverse (arcS l)).1) (mat n.toNat (rkAll o.reverse (arcS l)).2) a b).1 = rd (DS a) b := by
    intro a b a0 a1 c0 c1
    unfold nearR
    rw [if_pos ⟨hr2, by unfold inB; rw [w64 (by omega)]; simp; omega⟩]
    exact near_dist h1 hD h3 ⟨a0, a1⟩ ⟨c0, c1⟩
  have he1 := fun a b => implNear_ev n l o (mat n.toNat (rkAll o (arcS l)).1) (mat n.toNat (rkAll o (arcS l)).2) a b (by omega) (few_mat (by omega) _) (few_mat (by omega) _)
  have he2 := fun a b => implNear_ev n l o.reverse (mat n.toNat (rkAll o.reverse (arcS l)).1) (mat n.toNat (rkAll o.reverse (arcS l)).2) a b (by rw [List.length_reverse]; omega) (few_mat (by omega) _) (few_mat (by omega) _)
  generalize mat n.toNat (rkAll o (arcS l)).1 = C1 at hn1 he1 ⊢
  generalize mat n.toNat (rkAll o (arcS l)).2 = V1 at hn1 he1 ⊢
  generalize mat n.toNat (rkAll o.reverse (arcS l)).1 = C2 at hn2 he2 hi2 ⊢
  generalize mat n.toNat (rkAll o.reverse (arcS l)).2 = V2 at hn2 he2 hi2 ⊢
  simp only
  have hstart : Ev (fun k => laws_FnRankOrders.l0 k o [] (wrap64 ((o.length : Int) - 1)) n l o C1 V1) true := by
    have key : ∀ i : Nat, i ≤ o.length → Ev (fun k => laws_FnRankOrders.l0 k o (o.drop i).reverse ((i : Int) - 1) n l o C1 V1) true := by
      intro i
      induction i with
      | zero =>
        intro _
        refine Ev.step (G := fun k => (impl_RankOf.f n l o.reverse).bind fun bt146 => (laws_FnRankOrders.l1 k 0 n l o C1 V1 bt146.1 bt146.2.1 bt146.2.2)) (fun k => ?_) ?_
        · simp only [laws_FnRankOrders.l0]
          rw [if_neg (by omega), List.drop_zero]
        · refine Ev.congr (G := fun k => laws_FnRankOrders.l1 k 0 n l o C1 V1 o.reverse C2 V2) (fun k => by rw [hi2]; rfl) ?_
          obtain ⟨N, rfl⟩ := Int.eq_ofNat_of_zero_le (show 0 ≤ n by omega)
          refine downto (P := fun i => Ev (fun k => laws_FnRankOrders.l1 k (i : Int) (N : Int) l o C1 V1 o.reverse C2 V2) true) (n := N) ?_ ?_
          · exact Ev.step (G := fun _ => some true) (fun k => by simp only [laws_FnRankOrders.l1]; rw [if_neg (by omega)]) (Ev.ret _)
          · intro i hi hnx
            refine Ev.step (fun k => by simp only [laws_FnRankOrders.l1]; rw [if_pos (by omega)]) ?_
            refine downto (P := fun j => Ev (fun k => laws_FnRankOrders.l2 k (i : Int) (j : Int) (N : Int) l o C1 V1 o.reverse C2 V2) true) (n := N) ?_ ?_
            · refine Ev.step (fun k => ?_) hnx
              simp only [laws_FnRankOrders.l2]
              rw [if_neg (by omega), w64s (by omega)]
            · intro j hj hnx2
              refine Ev.step (G := fun k => (impl_RankNear.f k (N : Int) l o C1 V1 (i : Int) (j : Int)).bind fun bt156 => ((impl_RankNear.f k (N : Int) l o.reverse C2 V2 (i : Int) (j : Int)).bind fun bt158 => (if bt156.1 = bt158.1 then (laws_FnRankOrders.l2 k (i : Int) ((j + 1 : Nat) : Int) (N : Int) l o C1 V1 o.reverse C2 V2) else (some false)))) (fun k => ?_) ?_
              · simp only [laws_FnRankOrders.l2]
                rw [if_pos (by omega), w64s (by omega)]
              · refine Ev.bind (he1 _ _) (Ev.bind (he2 _ _) (Ev.pos ?_ hnx2))
                rw [hn1 _ _ (by omega) (by omega) (by omega) (by omega), hn2 _ _ (by omega) (by omega) (by omega) (by omega)]
      | succ i ih =>
        intro hi
        refine Ev.step (fun k => ?_) (ih (by omega))
        simp only [laws_FnRankOrders.l0]
        rw [if_pos (by omega), if_pos (by omega), if_pos (by omega), if_pos (by rw [List.length_reverse, List.length_drop]; omega)]
        have e3 : (o.drop (i + 1)).reverse ++ [rd o (((i + 1 : Nat) : Int) - 1)] = (o.drop i).reverse := by
          rw [show ((i + 1 : Nat) : Int) - 1 = (i : Int) from by omega, rd_at0 o i (by omega), List.drop_eq_getElem_cons (show i < o.length by omega), List.reverse_cons]
        rw [e3, show wrap64 (((i + 1 : Nat) : Int) - 1 - 1) = (i : Int) - 1 from by unfold wrap64; omega]
    have := key o.length (Nat.le_refl _)
    rw [List.drop_length] at this
    rwa [show wrap64 ((o.length : Int) - 1) = (o.length : Int) - 1 from by unfold wrap64; omega]
  refine Ev.step (fun k => ?_) hstart
  simp only [laws_FnRankOrders.j0]
  rw [if_neg (by simp; intro h; rw [h] at hol; simp at hol; omega)]
end Go.Proofs.Ytdlaaccnaokdnaa.Pure
