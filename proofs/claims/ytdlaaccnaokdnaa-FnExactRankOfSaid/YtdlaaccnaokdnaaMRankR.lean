/- The laws' own tests of likeness, of a thing with itself; RankOf of the program; ranks compared; RankOf of the reference; a drawn order. -/
import Derived.Test.YtdlaaccnaokdnaaMEv
import Derived.Test.YtdlaaccnaokdnaaGWk
import Derived.Test.YtdlaaccnaokdnaaMRankK
import Derived.Test.YtdlaaccnaokdnaaPFImplRankof
import Derived.Test.YtdlaaccnaokdnaaPFLawsWkrank
import Derived.Test.YtdlaaccnaokdnaaMDraw
import Derived.Test.YtdlaaccnaokdnaaPFSpecRankof
import Derived.Test.YtdlaaccnaokdnaaPFSpecL30Order
set_option linter.unusedVariables false
namespace Go.Proofs.Ytdlaaccnaokdnaa.M
open Go.RowKit Go.Proofs.Ytdlaaccnaokdnaa.P Go.Proofs.YtdlaaccnaokdnaaV.PrintWords Go.Proofs.YtdlaaccnaokdnaaV.PrintMore

theorem rdL5_at_ (T : List (List Int)) (i : Nat) (hi : i < T.length) : rd_L5 T (i : Int) = T[i] := by
  simp [rd_L5, List.getD, hi]
theorem wkInts_self (l : List Int) (hl : l.length ≤ 4611686018427387904) : Ev (fun k => laws_wkInts.f k l l) true := by
  refine Ev.congr (G := fun k => laws_wkInts.l0 k l l 0) (fun k => by unfold laws_wkInts.f; rw [if_pos rfl]) ?_
  refine downto (P := fun i => Ev (fun k => laws_wkInts.l0 k l l (i : Int)) true) (n := l.length) ?_ ?_
  · refine Ev.step (G := fun _ => some true) (fun k => ?_) (Ev.ret _)
    simp only [laws_wkInts.l0]
    rw [if_neg (by omega)]
  · intro i hi h
    refine Ev.step (fun k => ?_) h
    simp only [laws_wkInts.l0, if_true]
    rw [if_pos (by omega), if_pos (by omega), if_pos (by omega), w64s (by omega)]
theorem wkGrid_self (g : List (List Int)) (hg : g.length ≤ 4611686018427387904) (hr : ∀ r ∈ g, r.length ≤ 4611686018427387904) : Ev (fun k => laws_wkGrid.f k g g) true := by
  refine Ev.congr (G := fun k => laws_wkGrid.l0 k g g 0) (fun k => by unfold laws_wkGrid.f; rw [if_pos rfl]) ?_
  refine downto (P := fun i => Ev (fun k => laws_wkGrid.l0 k g g (i : Int)) true) (n := g.length) ?_ ?_
  · refine Ev.step (G := fun _ => some true) (fun k => ?_) (Ev.ret _)
    simp only [laws_wkGrid.l0]
    rw [if_neg (by omega)]
  · intro i hi h
    refine Ev.step (G := fun k => (laws_wkInts.f k (rd_L5 g (i : Int)) (rd_L5 g (i : Int))).bind fun t103 => (if t103 = true then (laws_wkGrid.l0 k g g ((i + 1 : Nat) : Int)) else (some false))) (fun k => ?_) ?_
    · simp only [laws_wkGrid.l0]
      rw [if_pos (by omega), if_pos (by omega), if_pos (by omega), w64s (by omega)]
    · refine Ev.bind (wkInts_self _ ?_) (Ev.pos rfl h)
      rw [rdL5_at_ g i hi]
      exact hr _ (List.getElem_mem hi)
end Go.Proofs.Ytdlaaccnaokdnaa.M
set_option linter.unusedVariables false
namespace Go.Proofs.Ytdlaaccnaokdnaa.M
open Go.RowKit Go.Proofs.Ytdlaaccnaokdnaa.P Go.Proofs.YtdlaaccnaokdnaaV.PrintWords Go.Proofs.YtdlaaccnaokdnaaV.PrintMore
def rkOf (n : Int) (l : List S61) (o : List Int) : List Int × List (List Int) × List (List Int) := if netOkB n l = true ∧ Ord o n then (o, mat n.toNat (rkAll o (arcS l)).1, mat n.toNat (rkAll o (arcS l)).2) else ([], [], [])
theorem implRankOf_eq (n : Int) (l : List S61) (o : List Int) (ho : o.length ≤ 1048576) : impl_RankOf.f n l o = some (rkOf n l o) := by
  unfold impl_RankOf.f impl_NetOk.f rkOf
  rw [Option.bind_some]
  by_cases h1 : netOkB n l = true
  rotate_left
  · rw [if_neg h1, if_neg (fun h => h1 h.1)]
  rw [if_pos h1]
  unfold impl_permuted.f
  rw [if_pos ho, Option.bind_some]
  by_cases h2 : Ord o n
  rotate_left
  · rw [if_neg (by simp [h2]), if_neg (fun h => h2 h.2)]
  rw [if_pos (by simp [h2]), if_pos ⟨h1, h2⟩]
  unfold impl_rankOf.f
  rw [rkF_yes h1 h2, Option.bind_some]
theorem wkRank_self {o : List Int} {c v : List (List Int)} (ho : o.length ≤ 1048576) (hc : Few c) (hv : Few v) : Ev (fun k => laws_wkRank.f k o c v o c v) true := by
  refine Ev.congr (G := fun k => (laws_wkInts.f k o o).bind fun t103 => (if t103 = true then ((laws_wkGrid.f k c c).bind fun t104 => (if t104 = true then ((laws_wkGrid.f k v v).bind fun t105 => (some t105)) else (some false))) else (some false))) (fun k => by unfold laws_wkRank.f; rfl) ?_
  refine Ev.bind (wkInts_self o (by omega)) (Ev.pos rfl (Ev.bind (wkGrid_self c ?_ ?_) (Ev.pos rfl (Ev.bind (wkGrid_self v ?_ ?_) (Ev.ret _)))))
  · have := hc.1; omega
  · exact fun r hr => by have := hc.2 r hr; omega
  · have := hv.1; omega
  · exact fun r hr => by have := hv.2 r hr; omega
theorem rkOf_few (n : Int) (l : List S61) (o : List Int) (ho : o.length ≤ 1048576) : (rkOf n l o).1.length ≤ 1048576 ∧ Few (rkOf n l o).2.1 ∧ Few (rkOf n l o).2.2 := by
  unfold rkOf
  by_cases h : netOkB n l = true ∧ Ord o n
  · rw [if_pos h]
    obtain ⟨b1, b2, b3⟩ := rk_bounds h.1
    exact ⟨ho, few_mat (by omega) _, few_mat (by omega) _⟩
  · rw [if_neg h]
    exact ⟨by simp, ⟨by simp, by simp⟩, ⟨by simp, by simp⟩⟩
end Go.Proofs.Ytdlaaccnaokdnaa.M
set_option linter.unusedVariables false
namespace Go.Proofs.Ytdlaaccnaokdnaa.M
open Go.RowKit Go.Proofs.Ytdlaaccnaokdnaa.P Go.Proofs.YtdlaaccnaokdnaaV.PrintWords Go.Proofs.YtdlaaccnaokdnaaV.PrintMore
theorem specRankOf_ev (n : Int) (l : List S61) (o : List Int) (hl : l.length ≤ 1048576) (ho : o.length ≤ 1048576) : Ev (fun k => spec_RankOf.f k n l o) (rkOf n l o) := by
  refine Ev.congr (G := fun k => (spec_l1Ok.f k n l).bind fun t103 => (if t103 = true then ((spec_l8Order.f k o n).bind fun t104 => (if t104 = true then ((spec_l8Make.f n l o).bind fun bt105 => (some (bt105.1, bt105.2.1, bt105.2.2))) else (some (([] : List Int), ([] : List (List Int)), ([] : List (List Int)))))) else (some (([] : List Int), ([] : List (List Int)), ([] : List (List Int)))))) (fun k => by unfold spec_RankOf.f; rfl) ?_
  refine Ev.bind (l1Ok_netOkB n l (by omega)) ?_
  unfold rkOf
  by_cases h1 : netOkB n l = true
  rotate_left
  · rw [if_neg (fun h : netOkB n l = true ∧ Ord o n => h1 h.1)]
    exact Ev.neg h1 (Ev.ret _)
  refine Ev.pos h1 ?_
  obtain ⟨b1, b2, b3⟩ := rk_bounds h1
  refine Ev.bind (l8Order_ev o n ho ⟨b1, b2⟩) ?_
  by_cases h2 : Ord o n
  rotate_left
  · rw [decide_eq_false h2, if_neg (fun h : netOkB n l = true ∧ Ord o n => h2 h.2)]
    exact Ev.neg (by decide) (Ev.ret _)
  rw [decide_eq_true h2]
  refine Ev.pos rfl ?_
  rw [if_pos (show netOkB n l = true ∧ Ord o n from ⟨h1, h2⟩)]
  refine (Ev.congr (G := fun _ => some (o, mat n.toNat (rkAll o (arcS l)).1, mat n.toNat (rkAll o (arcS l)).2)) (fun k => ?_) (Ev.ret _))
  unfold spec_l8Make.f
  rw [rkF_yes h1 h2, Option.bind_some]
theorem order_ev {b : List Int} (hb : Byt b) {p : Int} (h0 : 0 ≤ p) (h1 : p ≤ 900000) {n : Int} (hn : 0 ≤ n ∧ n ≤ 9) : ∃ (o : List Int) (p' : Int), Ev (fun k => spec_l30Order.f k b p n) (o, p') ∧ o.length ≤ 9 ∧ p ≤ p' ∧ p' ≤ p + 9 := by
  have key : ∀ (d i : Nat) (x : List Int) (q : Int), (i : Int) + d = n → x.length = i → 0 ≤ q → q + d ≤ 900100 → ∃ (o : List Int) (p' : Int), Ev (fun k => spec_l30Order.l0 k n x (i : Int) b q) (o, p') ∧ o.length ≤ 9 ∧ q ≤ p' ∧ p' ≤ q + d := by
    intro d
    induction d with
    | zero =>
      intro i x q hi hx h0 h1
      refine ⟨x, q, Ev.step (G := fun _ => some (x, q)) (fun k => ?_) (Ev.ret _), by omega, by omega, by omega⟩
      simp only [spec_l30Order.l0]
      rw [if_neg (by omega)]
    | succ d ih =>
      intro i x q hi hx h0 h1
      have hw : wrap64 ((x.length : Int) + 1) = ((i + 1 : Nat) : Int) := by rw [hx]; unfold wrap64; omega
      obtain ⟨r, hr, _, hr2⟩ := pick_ev (b := b) (p := q) ((i + 1 : Nat) : Int) hb h0 (by omega)
      obtain ⟨r0, r1⟩ := hr2 (by omega)
      have hlen : (x.take r.toNat ++ [(i : Int)] ++ x.drop r.toNat).length = i + 1 := by simp; omega
      obtain ⟨o, p', h2, h3, h4, h5⟩ := ih (i + 1) (x.take r.toNat ++ [(i : Int)] ++ x.drop r.toNat) (q + 1) (by omega) hlen (by omega) (by omega)
      refine ⟨o, p', ?_, h3, by omega, by omega⟩
      refine Ev.step (G := fun k => (spec_l30Rd_pick.f k b q ((i + 1 : Nat) : Int)).bind fun bt104 => (if 0 ≤ bt104.1 then (if bt104.1 ≤ (x.length : Int) then (if ([] : List Int).length + (x.take (bt104.1 : Int).toNat).length < 17592186044416 then (if (([] : List Int) ++ x.take (bt104.1 : Int).toNat).length < 17592186044416 then (if (([] : List Int) ++ x.take (bt104.1 : Int).toNat ++ [(i : Int)]).length + (x.drop (bt104.1 : Int).toNat).length < 17592186044416 then (spec_l30Order.l0 k n (([] : List Int) ++ x.take (bt104.1 : Int).toNat ++ [(i : Int)] ++ x.drop (bt104.1 : Int).toNat) (wrap64 ((i : Int) + 1)) b bt104.2) else none) else none) else none) else none) else none)) (fun k => ?_) ?_
      · simp only [spec_l30Order.l0, Option.bind_some]
        rw [if_pos (by omega), hw]
      · refine Ev.bind hr ?_
        refine Ev.congr (fun k => ?_) h2
        show (if 0 ≤ r then (if r ≤ (x.length : Int) then (if ([] : List Int).length + (x.take r.toNat).length < 17592186044416 then (if (([] : List Int) ++ x.take r.toNat).length < 17592186044416 then (if (([] : List Int) ++ x.take r.toNat ++ [(i : Int)]).length + (x.drop r.toNat).length < 17592186044416 then (spec_l30Order.l0 k n (([] : List Int) ++ x.take r.toNat ++ [(i : Int)] ++ x.drop r.toNat) (wrap64 ((i : Int) + 1)) b (q + 1)) else none) else none) else none) else none) else none) = _
        rw [if_pos r0, if_pos (by omega), if_pos (by simp; omega), if_pos (by simp; omega), if_pos (by simp; omega), List.nil_append, w64s (by omega)]
  obtain ⟨o, p', h2, h3, h4, h5⟩ := key n.toNat 0 [] p (by omega) rfl h0 (by omega)
  exact ⟨o, p', h2, h3, h4, by omega⟩
end Go.Proofs.Ytdlaaccnaokdnaa.M
