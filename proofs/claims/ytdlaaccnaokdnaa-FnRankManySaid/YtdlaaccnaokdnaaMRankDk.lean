/- A drawn net is ok, a drawn order is one; what the laws of a rank draw. -/
import Derived.Test.YtdlaaccnaokdnaaMRankK
import Derived.Test.YtdlaaccnaokdnaaMDraw
import Derived.Test.YtdlaaccnaokdnaaHL30R
set_option linter.unusedVariables false
namespace Go.Proofs.Ytdlaaccnaokdnaa.M
open Go.RowKit Go.Proofs.Ytdlaaccnaokdnaa.P Go.Proofs.YtdlaaccnaokdnaaV.PrintWords Go.Proofs.YtdlaaccnaokdnaaV.PrintMore
theorem ord_ins {x : List Int} {i : Nat} (h : Ord x (i : Int)) (r : Nat) : Ord (x.take r ++ [(i : Int)] ++ x.drop r) ((i + 1 : Nat) : Int) := by
  have hp : (x.take r ++ [(i : Int)] ++ x.drop r).Perm ((i : Int) :: x) := by
    have h1 : (x.take r ++ [(i : Int)] ++ x.drop r).Perm ((i : Int) :: (x.take r ++ x.drop r)) := by
      rw [List.append_assoc]
      exact List.perm_middle
    rwa [List.take_append_drop] at h1
  obtain ⟨h1, h2, h3⟩ := h
  refine ⟨by rw [hp.length_eq, List.length_cons]; omega, hp.nodup_iff.2 (List.nodup_cons.2 ⟨fun hm => by have := h3 _ hm; omega, h2⟩), fun y hy => ?_⟩
  rcases List.mem_cons.1 (hp.mem_iff.1 hy) with rfl | hy
  · omega
  · have := h3 y hy; omega
theorem tmod_ne {x n : Int} (hn : 2 ≤ n) (h : 0 ≤ x ∧ x < n) : x ≠ Int.tmod (x + 1) n := by
  by_cases hx : x + 1 = n
  · rw [hx, Int.tmod_self]; omega
  · rw [Int.tmod_eq_emod_of_nonneg (by omega), Int.emod_eq_of_lt (by omega) (by omega)]; omega
theorem arc_ok {n a b c d e : Int} (hn : n ≤ 8) (ha : 0 ≤ a ∧ a < n) (hb : 0 ≤ b ∧ b < n) (hne : a ≠ b) (hc : 0 ≤ c ∧ c ≤ 99) (hd : 0 ≤ d ∧ d ≤ 99) (he : 0 ≤ e ∧ e ≤ 9) : badArc n (⟨a, b, c, d, e⟩ : S61) = false := by
  have hw : wrap64 (n - 1) = n - 1 := w64 (by omega)
  simp [badArc, inB, costB, loadB, hw]
  omega
theorem netOk_of {n : Int} {l : List S61} (h1 : 1 ≤ n ∧ n ≤ 8) (h2 : l.length ≤ 16) (h3 : ∀ x ∈ l, badArc n x = false) : netOkB n l = true := by
  simp only [netOkB, Bool.and_eq_true, Bool.not_eq_true', decide_eq_true_eq, List.any_eq_false]
  exact ⟨⟨h1, h2⟩, fun x hx => by rw [h3 x hx]; decide⟩
theorem l30Net_k0 {b : List Int} (hb : Byt b) {nodes : Int} (hn : 2 ≤ nodes ∧ nodes ≤ 6) : ∀ (m : Nat) (p : Int) (l : List S61), m ≤ 13 → 0 ≤ p → p + 6 * m ≤ 900000 → l.length + m ≤ 13 → (∀ x ∈ l, badArc nodes x = false) →
    ∃ (l' : List S61) (p' : Int), Ev (fun k => spec_l30Net.l0 k (m : Int) b p nodes l) (nodes, l', p') ∧ l'.length ≤ 13 ∧ (∀ x ∈ l', badArc nodes x = false) ∧ p ≤ p' ∧ p' ≤ p + 6 * m
  | 0, p, l, hm, h0, h1, hl, ha => by
    refine ⟨l, p, Ev.step (G := fun _ => some (nodes, l, p)) (fun k => ?_) (Ev.ret _), by omega, ha, Int.le_refl _, by omega⟩
    simp only [spec_l30Net.l0]
    rw [if_neg (by omega)]
  | m + 1, p, l, hm, h0, h1, hl, ha => by
    obtain ⟨r1, e1, _, b1⟩ := pick_ev (b := b) (p := p) nodes hb h0 (by omega)
    obtain ⟨r2, e2, _, b2⟩ := pick_ev (b := b) (p := p + 1) nodes hb (by omega) (by omega)
    obtain ⟨r3, e3, _, b3⟩ := pick_ev (b := b) (p := p + 1 + 1) 100 hb (by omega) (by omega)
    obtain ⟨r4, e4, b4⟩ := one_ev (b := b) (p := p + 1 + 1 + 1) [0, 1, 2, 5, 9, r3] hb (by omega) (by omega) (by simp)
    obtain ⟨r5, e5, b5⟩ := one_ev (b := b) (p := p + 1 + 1 + 1 + 1) [0, 0, 3, 8] hb (by omega) (by omega) (by simp)
    obtain ⟨r6, e6, _, b6⟩ := pick_ev (b := b) (p := p + 1 + 1 + 1 + 1 + 1) 10 hb (by omega) (by omega)
    have c1 := b1 (by omega)
    have c2 := b2 (by omega)
    have c3 := b3 (by omega)
    have c6 := b6 (by omega)
    simp only [List.mem_cons, List.not_mem_nil, or_false] at b4 b5
    have c4 : 0 ≤ r4 ∧ r4 ≤ 99 := by omega
    have c5 : 0 ≤ r5 ∧ r5 ≤ 8 := by omega
    have t := tmod_in (x := r2 + 1) (n := nodes) (by omega) (by omega)
    have hlt : l.length < 3518437208883 := by omega
    have hw : wrap64 (((m + 1 : Nat) : Int) - 1) = (m : Int) := by rw [w64 (by omega)]; omega
    have hw2 : wrap64 (r2 + 1) = r2 + 1 := w64 (by omega)
    have go : ∀ x : S61, badArc nodes x = false → ∃ (l' : List S61) (p' : Int), Ev (fun k => spec_l30Net.l0 k (m : Int) b (p + 1 + 1 + 1 + 1 + 1 + 1) nodes (l ++ [x])) (nodes, l', p') ∧ l'.length ≤ 13 ∧ (∀ x ∈ l', badArc nodes x = false) ∧ p ≤ p' ∧ p' ≤ p + 6 * ((m + 1 : Nat) : Int) := by
      intro x hx
      obtain ⟨l', p', f1, f2, f3, f4, f5⟩ := l30Net_k0 hb hn m (p + 1 + 1 + 1 + 1 + 1 + 1) (l ++ [x]) (by omega) (by omega) (by omega) (by simp; omega) (fun y hy => by
        rcases List.mem_append.1 hy with hy | hy
        · exact ha y hy
        · simp at hy; rw [hy]; exact hx)
      exact ⟨l', p', f1, f2, f3, by omega, by omega⟩
    by_cases he : r1 = r2
    · obtain ⟨l', p', f1, f2, f3, f4, f5⟩ := go ⟨r1, Int.tmod (r2 + 1) nodes, r4, r5, r6⟩ (arc_ok (by omega) (by omega) t (by rw [he]; exact tmod_ne (by omega) c2) c4 (by omega) (by omega))
      refine ⟨l', p', Ev.step (fun k => by simp only [spec_l30Net.l0]; rw [if_pos (by omega), hw]) ?_, f2, f3, f4, f5⟩
      refine Ev.bind e1 (Ev.bind e2 (Ev.bind e3 (Ev.bind e4 (Ev.bind e5 (Ev.bind e6 (Ev.pos he (Ev.neg (by omega) (Ev.pos hlt ?_))))))))
      simp only [hw2]
      exact f1
    · obtain ⟨l', p', f1, f2, f3, f4, f5⟩ := go ⟨r1, r2, r4, r5, r6⟩ (arc_ok (by omega) c1 c2 he c4 (by omega) (by omega))
      refine ⟨l', p', Ev.step (fun k => by simp only [spec_l30Net.l0]; rw [if_pos (by omega), hw]) ?_, f2, f3, f4, f5⟩
      exact Ev.bind e1 (Ev.bind e2 (Ev.bind e3 (Ev.bind e4 (Ev.bind e5 (Ev.bind e6 (Ev.neg he (Ev.pos hlt f1)))))))
theorem l30Net_ok {b : List Int} (hb : Byt b) {p : Int} (h0 : 0 ≤ p) (h1 : p ≤ 800000) : ∃ (n : Int) (l : List S61) (p' : Int), Ev (fun k => spec_l30Net.f k b p) (n, l, p') ∧ 2 ≤ n ∧ n ≤ 6 ∧ l.length ≤ 13 ∧ netOkB n l = true ∧ p ≤ p' ∧ p' ≤ p + 90 := by
  obtain ⟨r1, e1, _, b1⟩ := pick_ev (b := b) (p := p) 5 hb h0 (by omega)
  obtain ⟨r2, e2, _, b2⟩ := pick_ev (b := b) (p := p + 1) 14 hb (by omega) (by omega)
  have c1 := b1 (by omega)
  have c2 := b2 (by omega)
  obtain ⟨m, rfl⟩ := Int.eq_ofNat_of_zero_le c2.1
  have hw : wrap64 (2 + r1) = 2 + r1 := w64 (by omega)
  obtain ⟨l', p', f1, f2, f3, f4, f5⟩ := l30Net_k0 hb (nodes := 2 + r1) (by omega) m (p + 1 + 1) [] (by omega) (by omega) (by omega) (by simp; omega) (fun x hx => by cases hx)
  refine ⟨2 + r1, l', p', ?_, by omega, by omega, f2, netOk_of (by omega) (by omega) f3, by omega, by omega⟩
  unfold spec_l30Net.f
  refine Ev.bind e1 (Ev.bind e2 ?_)
  simp only [hw]
  exact f1
theorem order_ok {b : List Int} (hb : Byt b) {p : Int} (h0 : 0 ≤ p) (h1 : p ≤ 900000) {n : Int} (hn : 0 ≤ n ∧ n ≤ 9) : ∃ (o : List Int) (p' : Int), Ev (fun k => spec_l30Order.f k b p n) (o, p') ∧ Ord o n ∧ p ≤ p' ∧ p' ≤ p + 9 := by
  have key : ∀ (d i : Nat) (x : List Int) (q : Int), (i : Int) + d = n → Ord x (i : Int) → 0 ≤ q → q + d ≤ 900100 → ∃ (o : List Int) (p' : Int), Ev (fun k => spec_l30Order.l0 k n x (i : Int) b q) (o, p') ∧ Ord o n ∧ q ≤ p' ∧ p' ≤ q + d := by
    intro d
    induction d with
    | zero =>
      intro i x q hi hx h0 h1
      have hi2 : (i : Int) = n := by omega
      refine ⟨x, q, Ev.step (G := fun _ => some (x, q)) (fun k => ?_) (Ev.ret _), hi2 ▸ hx, by omega, by omega⟩
      simp only [spec_l30Order.l0]
      rw [if_neg (by omega)]
    | succ d ih =>
      intro i x q hi hO h0 h1
      have hx : x.length = i := by have := hO.1; omega
      have hw : wrap64 ((x.length : Int) + 1) = ((i + 1 : Nat) : Int) := by rw [hx]; unfold wrap64; omega
      obtain ⟨r, hr, _, hr2⟩ := pick_ev (b := b) (p := q) ((i + 1 : Nat) : Int) hb h0 (by omega)
      obtain ⟨r0, r1⟩ := hr2 (by omega)
      have hlen : (x.take r.toNat ++ [(i : Int)] ++ x.drop r.toNat).length = i + 1 := by simp; omega
      obtain ⟨o, p', h2, h3, h4, h5⟩ := ih (i + 1) (x.take r.toNat ++ [(i : Int)] ++ x.drop r.toNat) (q + 1) (by omega) (ord_ins hO r.toNat) (by omega) (by omega)
      refine ⟨o, p', ?_, h3, by omega, by omega⟩
      refine Ev.step (G := fun k => (spec_l30Rd_pick.f k b q ((i + 1 : Nat) : Int)).bind fun bt104 => (if 0 ≤ bt104.1 then (if bt104.1 ≤ (x.length : Int) then (if ([] : List Int).length + (x.take (bt104.1 : Int).toNat).length < 17592186044416 then (if (([] : List Int) ++ x.take (bt104.1 : Int).toNat).length < 17592186044416 then (if (([] : List Int) ++ x.take (bt104.1 : Int).toNat ++ [(i : Int)]).length + (x.drop (bt104.1 : Int).toNat).length < 17592186044416 then (spec_l30Order.l0 k n (([] : List Int) ++ x.take (bt104.1 : Int).toNat ++ [(i : Int)] ++ x.drop (bt104.1 : Int).toNat) (wrap64 ((i : Int) + 1)) b bt104.2) else none) else none) else none) else none) else none)) (fun k => ?_) ?_
      · simp only [spec_l30Order.l0, Option.bind_some]
        rw [if_pos (by omega), hw]
      · refine Ev.bind hr ?_
        refine Ev.congr (fun k => ?_) h2
        show (if 0 ≤ r then (if r ≤ (x.length : Int) then (if ([] : List Int).length + (x.take r.toNat).length < 17592186044416 then (if (([] : List Int) ++ x.take r.toNat).length < 17592186044416 then (if (([] : List Int) ++ x.take r.toNat ++ [(i : Int)]).length + (x.drop r.toNat).length < 17592186044416 then (spec_l30Order.l0 k n (([] : List Int) ++ x.take r.toNat ++ [(i : Int)] ++ x.drop r.toNat) (wrap64 ((i : Int) + 1)) b (q + 1)) else none) else none) else none) else none) else none) = _
        rw [if_pos r0, if_pos (by omega), if_pos (by simp; omega), if_pos (by simp; omega), if_pos (by simp; omega), List.nil_append, w64s (by omega)]
  obtain ⟨o, p', h2, h3, h4, h5⟩ := key n.toNat 0 [] p (by omega) ⟨rfl, List.nodup_nil, fun x hx => by cases hx⟩ h0 (by omega)
  exact ⟨o, p', h2, h3, h4, by omega⟩
theorem few_tput {G : List (List Int)} (h : Few G) {a b : Int} (h0 : 0 ≤ a) (h1 : a < G.length) (x : Int) : Few (tput G a b x) := by
  refine ⟨by unfold tput; rw [List.length_set]; exact h.1, fun r hr => ?_⟩
  unfold tput at hr
  rcases List.mem_or_eq_of_mem_set hr with hr | rfl
  · exact h.2 r hr
  · rw [List.length_set]
    obtain ⟨i, rfl⟩ := Int.eq_ofNat_of_zero_le h0
    have e : rd_L5 G (i : Int) = G[i]'(by omega) := by simp [rd_L5]; rw [List.getElem?_eq_getElem (by omega)]; rfl
    rw [e]
    exact h.2 _ (List.getElem_mem _)
/-- what spec.l30Rank draws -/
theorem l30Rank_ev {b : List Int} (hb : Byt b) : ∃ (n : Int) (l : List S61) (o : List Int) (C V : List (List Int)) (p : Int), Ev (fun k => spec_l30Rank.f k b 0) (n, l, o, C, V, p) ∧ netOkB n l = true ∧ l.length ≤ 13 ∧ o.length ≤ 9 ∧ Few C ∧ Few V ∧ 0 ≤ p ∧ p ≤ 1000 := by
  obtain ⟨n, l, p1, e1, n0, n1, l0, lk, p0, q0⟩ := l30Net_ok hb (p := 0) (by omega) (by omega)
  obtain ⟨o, p2, e2, oo, p3, q3⟩ := order_ok hb (p := p1) (by omega) (by omega) (n := n) (by omega)
  have e3 : spec_l8Make.f n l o = some (o, mat n.toNat (rkAll o (arcS l)).1, mat n.toNat (rkAll o (arcS l)).2) := rkF_yes lk oo
  obtain ⟨a, e4, _, ha⟩ := pick_ev (b := b) (p := p2) n hb (by omega) (by omega)
  obtain ⟨c, e5, _, hc⟩ := pick_ev (b := b) (p := p2 + 1) n hb (by omega) (by omega)
  obtain ⟨d, e6, _, _⟩ := pick_ev (b := b) (p := p2 + 1 + 1) 16 hb (by omega) (by omega)
  replace ha := ha (by omega)
  replace hc := hc (by omega)
  obtain ⟨N, rfl⟩ := Int.eq_ofNat_of_zero_le (show 0 ≤ n by omega)
  rw [Int.toNat_natCast] at e3
  have hol : o.length = N := by have := oo.1; omega
  have fC := few_mat (n := N) (by omega) (rkAll o (arcS l)).1
  have fV := few_mat (n := N) (by omega) (rkAll o (arcS l)).2
  have iC : inT (mat N (rkAll o (arcS l)).1) a c := ⟨ha.1, by rw [mat_len]; exact ha.2, hc.1, by rw [mat_row_len _ ha.1 ha.2]; exact hc.2⟩
  have iV : inT (mat N (rkAll o (arcS l)).2) a c := ⟨ha.1, by rw [mat_len]; exact ha.2, hc.1, by rw [mat_row_len _ ha.1 ha.2]; exact hc.2⟩
  have key : ∃ (o' : List Int) (C V : List (List Int)) (p : Int), Ev (fun k => l30Spoil k b (p2 + 1 + 1 + 1) o (mat N (rkAll o (arcS l)).1) (mat N (rkAll o (arcS l)).2) a c d) (o', C, V, p) ∧ o'.length ≤ 9 ∧ Few C ∧ Few V ∧ 0 ≤ p ∧ p ≤ 1000 := by
    unfold l30Spoil
    by_cases d0 : d = 0
    · obtain ⟨x, ex, _, _⟩ := pick_ev (b := b) (p := p2 + 1 + 1 + 1) 5 hb (by omega) (by omega)
      exact ⟨o, tput (mat N (rkAll o (arcS l)).1) a c x, _, _, Ev.pos d0 (Ev.pos iC (Ev.bind ex (Ev.ret _))), by omega, few_tput fC iC.1 iC.2.1 x, fV, by omega, by omega⟩
    by_cases d1 : d = 1
    · obtain ⟨x, ex, _⟩ := one_ev (b := b) (p := p2 + 1 + 1 + 1) [-1, 0, 9] hb (by omega) (by omega) (by simp)
      exact ⟨o, _, tput (mat N (rkAll o (arcS l)).2) a c x, _, Ev.neg d0 (Ev.pos d1 (Ev.pos iV (Ev.bind ex (Ev.ret _)))), by omega, fC, few_tput fV iV.1 iV.2.1 x, by omega, by omega⟩
    by_cases d2 : d = 2
    · exact ⟨o ++ [0], _, _, _, Ev.neg d0 (Ev.neg d1 (Ev.pos d2 (Ev.pos (by omega) (Ev.ret _)))), by simp; omega, fC, fV, by omega, by omega⟩
    · exact ⟨o, _, _, _, Ev.neg d0 (Ev.neg d1 (Ev.neg d2 (Ev.ret _))), by omega, fC, fV, by omega, by omega⟩
  obtain ⟨o', C, V, p, e7, h1, h2, h3, h4, h5⟩ := key
  refine ⟨N, l, o', C, V, p, ?_, lk, l0, h1, h2, h3, h4, h5⟩
  unfold spec_l30Rank.f
  exact Ev.bind e1 (Ev.bind e2 (Ev.bind (Ev.of fun _ => e3) (Ev.bind e4 (Ev.bind e5 (Ev.bind e6 (Ev.bind e7 (Ev.ret _)))))))
end Go.Proofs.Ytdlaaccnaokdnaa.M
