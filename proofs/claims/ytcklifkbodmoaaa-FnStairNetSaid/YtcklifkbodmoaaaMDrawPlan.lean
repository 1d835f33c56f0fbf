/- Drawn timetables: the draw ends, and how many stops and connections there are. -/
import Derived.Test.YtcklifkbodmoaaaMDraw
import Derived.Test.YtcklifkbodmoaaaPFSpecL30Anyplan
set_option linter.unusedVariables false
namespace Go.Proofs.Ytcklifkbodmoaaa.M
open Go.RowKit Go.Proofs.Ytcklifkbodmoaaa.P Go.Proofs.YtcklifkbodmoaaaV.PrintWords Go.Proofs.YtcklifkbodmoaaaV.PrintMore
abbrev Drawn := Int × Int × List S32 × Int
theorem plan_l2 {b : List Int} (x4 x5 x6 x7 x8 p stops ch : Int) (c0 c1 c2 c3 c4 : Int) {l : List S32} (hl : l.length ≤ 1000) : ∀ (u i : Nat), i + u = l.length →
    ∃ l', l'.length = l.length + 1 ∧ ∀ R : Drawn, Ev (fun k => spec_l30Plan.l1 k x4 x5 x6 x7 (wrap64 (x8 - 1)) b p stops ch l') R → Ev (fun k => spec_l30Plan.l2 k x4 x5 x6 x7 x8 (i : Int) b p stops ch l c0 c1 c2 c3 c4) R
  | 0, i, hi => by
    obtain rfl : i = l.length := by omega
    refine ⟨l ++ [⟨c0, c1, c2, c3, c4⟩], by simp, fun R h => ?_⟩
    refine Ev.step (fun k => by simp only [spec_l30Plan.l2]; rw [if_neg (by omega)]) ?_
    simp only [Option.bind_some, Int.toNat_natCast, List.nil_append, List.length_nil, List.take_length, List.drop_length]
    refine Ev.pos (by omega) (Ev.pos (by omega) (Ev.pos (by omega) (Ev.pos (by omega) (Ev.pos (by simp; omega) ?_))))
    simpa using h
  | u + 1, i, hi => by
    have hil : i < l.length := by omega
    by_cases hc : (rd_T32 l (i : Int)).f2 ≤ c2
    · obtain ⟨l', e, h'⟩ := plan_l2 x4 x5 x6 x7 x8 p stops ch c0 c1 c2 c3 c4 hl u (i + 1) (by omega)
      refine ⟨l', e, fun R h => ?_⟩
      refine Ev.step (fun k => ?_) (h' R h)
      simp only [spec_l30Plan.l2]
      rw [if_pos (by omega), if_pos (by omega), if_pos hc, w64s (by omega)]
    · refine ⟨l.take i ++ [⟨c0, c1, c2, c3, c4⟩] ++ l.drop i, by simp; omega, fun R h => ?_⟩
      refine Ev.step (fun k => by simp only [spec_l30Plan.l2]; rw [if_pos (by omega), if_pos (by omega), if_neg hc]) ?_
      simp only [Option.bind_some, Int.toNat_natCast, List.nil_append, List.length_nil]
      have h1 : (l.take i).length = i := by rw [List.length_take]; omega
      have h2 : (l.drop i).length = l.length - i := List.length_drop ..
      refine Ev.pos (by omega) (Ev.pos (by omega) (Ev.pos (by omega) (Ev.pos (by simp; omega) ?_)))
      exact h
theorem plan_l1 {b : List Int} (hb : Byt b) (x4 x5 : Int) {stops : Int} (ch : Int) (hs : 2 ≤ stops ∧ stops ≤ 5) : ∀ (m : Nat) (x6 x7 p : Int) (l : List S32), m ≤ 3 → 0 ≤ p → p + 3 * m ≤ 900000 → l.length ≤ 100 →
    ∃ (l' : List S32) (p' : Int), p ≤ p' ∧ p' ≤ p + 3 * m ∧ l'.length ≤ l.length + m ∧ ∀ R : Drawn, Ev (fun k => spec_l30Plan.l0 k x4 (wrap64 (x5 + 1)) b p' stops ch l') R → Ev (fun k => spec_l30Plan.l1 k x4 x5 x6 x7 (m : Int) b p stops ch l) R
  | 0, x6, x7, p, l, _, h0, h1, hl => by
    refine ⟨l, p, by omega, by omega, by omega, fun R h => ?_⟩
    refine Ev.step (fun k => by simp only [spec_l30Plan.l1]; rw [if_neg (by omega)]) ?_
    exact Ev.step (fun k => by simp only [spec_l30Plan.j2]; rfl) (Ev.neg (by simp) h)
  | m + 1, x6, x7, p, l, hm, h0, h1, hl => by
    by_cases hlen : (l.length : Int) < 16
    · obtain ⟨r1, e1, _⟩ := pick_ev (b := b) (p := p) (wrap64 (stops - 1)) hb h0 (by omega)
      obtain ⟨r2, e2, _⟩ := pick_ev (b := b) (p := p + 1) 4 hb (by omega) (by omega)
      obtain ⟨r3, e3, _⟩ := one_ev (b := b) (p := p + 1 + 1) [0, 3, 8, 15] hb (by omega) (by omega) (by simp)
      obtain ⟨l1, f1, f2⟩ := plan_l2 (b := b) x4 x5 (Int.tmod (wrap64 ((wrap64 (x6 + 1)) + r1)) stops) (wrap64 ((wrap64 (x7 + r2)) + r3)) ((m + 1 : Nat) : Int) (p + 1 + 1 + 1) stops ch x6 (Int.tmod (wrap64 ((wrap64 (x6 + 1)) + r1)) stops) (wrap64 (x7 + r2)) (wrap64 ((wrap64 (x7 + r2)) + r3)) x5 (l := l) (by omega) l.length 0 (by omega)
      obtain ⟨l', p', g1, g2, g3, g4⟩ := plan_l1 hb x4 x5 ch hs m (Int.tmod (wrap64 ((wrap64 (x6 + 1)) + r1)) stops) (wrap64 ((wrap64 (x7 + r2)) + r3)) (p + 1 + 1 + 1) l1 (by omega) (by omega) (by omega) (by omega)
      refine ⟨l', p', by omega, by omega, by omega, fun R h => ?_⟩
      refine Ev.step (fun k => by simp only [spec_l30Plan.l1]; rw [if_pos (by omega)]) ?_
      refine Ev.step (fun k => by simp only [spec_l30Plan.j2]; rfl) (Ev.pos (decide_eq_true hlen) ?_)
      refine Ev.bind e1 (Ev.neg (by omega) (Ev.bind e2 (Ev.bind e3 (f2 R ?_))))
      rw [show wrap64 (((m + 1 : Nat) : Int) - 1) = (m : Int) by rw [w64 (by omega)]; omega]
      exact g4 R h
    · refine ⟨l, p, by omega, by omega, by omega, fun R h => ?_⟩
      refine Ev.step (fun k => by simp only [spec_l30Plan.l1]; rw [if_pos (by omega)]) ?_
      exact Ev.step (fun k => by simp only [spec_l30Plan.j2]; rfl) (Ev.neg (by simpa using hlen) h)
theorem plan_l0 {b : List Int} (hb : Byt b) {stops : Int} (ch : Int) (hs : 2 ≤ stops ∧ stops ≤ 5) (n : Nat) (hn : n ≤ 5) : ∀ (u t : Nat) (p : Int) (l : List S32), t + u = n → 0 ≤ p → p + 20 * u ≤ 800000 → l.length + 3 * u ≤ 15 →
    ∃ (l' : List S32) (p' : Int), Ev (fun k => spec_l30Plan.l0 k (n : Int) (t : Int) b p stops ch l) ((stops, ch, l', p') : Drawn) ∧ 0 ≤ p' ∧ p' ≤ p + 20 * u ∧ l'.length ≤ 15
  | 0, t, p, l, ht, h0, h1, hl => by
    refine ⟨l, p, ?_, h0, by omega, by omega⟩
    exact Ev.step (fun k => by simp only [spec_l30Plan.l0]; rw [if_neg (by omega)]) (Ev.ret _)
  | u + 1, t, p, l, ht, h0, h1, hl => by
    obtain ⟨r1, e1, _⟩ := pick_ev (b := b) (p := p) stops hb h0 (by omega)
    obtain ⟨r2, e2, _⟩ := pick_ev (b := b) (p := p + 1) 40 hb (by omega) (by omega)
    obtain ⟨r3, e3, _, hr3⟩ := pick_ev (b := b) (p := p + 1 + 1) 3 hb (by omega) (by omega)
    have hr3 := hr3 (by omega)
    obtain ⟨m, hm⟩ := Int.eq_ofNat_of_zero_le (show 0 ≤ 1 + r3 by omega)
    obtain ⟨l1, p1, f1, f2, f3, f4⟩ := plan_l1 hb (n : Int) (t : Int) ch hs m r1 r2 (p + 1 + 1 + 1) l (by omega) (by omega) (by omega) (by omega)
    obtain ⟨l', p', g1, g2, g3, g4⟩ := plan_l0 hb ch hs n hn u (t + 1) p1 l1 (by omega) (by omega) (by omega) (by omega)
    refine ⟨l', p', ?_, g2, by omega, g4⟩
    refine Ev.step (fun k => by simp only [spec_l30Plan.l0]; rw [if_pos (by omega)]) ?_
    refine Ev.bind e1 (Ev.bind e2 (Ev.bind e3 ?_))
    simp only
    rw [show wrap64 (1 + r3) = (m : Int) by rw [w64 (by omega)]; omega]
    refine f4 _ ?_
    rw [w64s (by omega)]
    exact g1
theorem plan_ev {b : List Int} (hb : Byt b) {p : Int} (h0 : 0 ≤ p) (h1 : p ≤ 100) : ∃ (stops ch : Int) (l : List S32) (p' : Int), Ev (fun k => spec_l30Plan.f k b p) ((stops, ch, l, p') : Drawn) ∧ 2 ≤ stops ∧ stops ≤ 5 ∧ l.length ≤ 15 ∧ 0 ≤ p' ∧ p' ≤ 1000 := by
  obtain ⟨r1, e1, _, hr1⟩ := pick_ev (b := b) (p := p) 4 hb h0 (by omega)
  obtain ⟨r2, e2, _⟩ := pick_ev (b := b) (p := p + 1) 5 hb (by omega) (by omega)
  obtain ⟨r3, e3, _, hr3⟩ := pick_ev (b := b) (p := p + 1 + 1) 5 hb (by omega) (by omega)
  have hr1 := hr1 (by omega)
  have hr3 := hr3 (by omega)
  obtain ⟨n, hn⟩ := Int.eq_ofNat_of_zero_le (show 0 ≤ 1 + r3 by omega)
  obtain ⟨l', p', g1, g2, g3, g4⟩ := plan_l0 hb (stops := 2 + r1) r2 (by omega) n (by omega) n 0 (p + 1 + 1 + 1) [] (by omega) (by omega) (by omega) (by simp; omega)
  refine ⟨2 + r1, r2, l', p', ?_, by omega, by omega, g4, g2, by omega⟩
  unfold spec_l30Plan.f
  refine Ev.bind e1 (Ev.bind e2 (Ev.bind e3 ?_))
  simp only
  rw [show wrap64 (1 + r3) = (n : Int) by rw [w64 (by omega)]; omega, show wrap64 (2 + r1) = 2 + r1 from w64 (by omega)]
  exact g1
theorem anyPlan_ev {b : List Int} (hb : Byt b) : ∃ (stops ch : Int) (l : List S32) (p' : Int), Ev (fun k => spec_l30AnyPlan.f k b 0) ((stops, ch, l, p') : Drawn) ∧ 2 ≤ stops ∧ stops ≤ 5 ∧ l.length ≤ 15 ∧ 0 ≤ p' ∧ p' ≤ 2000 := by
  obtain ⟨stops, ch, l, p, e, s0, s1, hl, p0, p1⟩ := plan_ev hb (p := 0) (by omega) (by omega)
  unfold spec_l30AnyPlan.f
  by_cases hne : (l.length : Int) > 0
  · obtain ⟨r1, e1, _, hr1⟩ := pick_ev (b := b) (p := p) (l.length : Int) hb p0 (by omega)
    have hr1 := hr1 (by omega)
    obtain ⟨r2, e2, _⟩ := pick_ev (b := b) (p := p + 1) 14 hb (by omega) (by omega)
    by_cases c0 : r2 = 0
    · obtain ⟨r3, e3, _⟩ := one_ev (b := b) (p := p + 1 + 1) [-1, 200, 0] hb (by omega) (by omega) (by simp)
      exact ⟨stops, ch, _, p + 1 + 1 + 1, Ev.bind e (Ev.pos hne (Ev.bind e1 (Ev.bind e2 (Ev.pos c0 (Ev.bind e3 (Ev.pos hr1.1 (Ev.pos hr1.2 (Ev.ret _)))))))), s0, s1, by simpa using hl, by omega, by omega⟩
    · by_cases c1 : r2 = 1
      · obtain ⟨r3, e3, _⟩ := one_ev (b := b) (p := p + 1 + 1) [-1, 6, 0] hb (by omega) (by omega) (by simp)
        exact ⟨stops, ch, _, p + 1 + 1 + 1, Ev.bind e (Ev.pos hne (Ev.bind e1 (Ev.bind e2 (Ev.neg c0 (Ev.pos c1 (Ev.bind e3 (Ev.pos hr1.1 (Ev.pos hr1.2 (Ev.ret _))))))))), s0, s1, by simpa using hl, by omega, by omega⟩
      · by_cases c2 : r2 = 2
        · obtain ⟨r3, e3, _⟩ := one_ev (b := b) (p := p + 1 + 1) [-1, 21] hb (by omega) (by omega) (by simp)
          exact ⟨stops, r3, l, p + 1 + 1 + 1, Ev.bind e (Ev.pos hne (Ev.bind e1 (Ev.bind e2 (Ev.neg c0 (Ev.neg c1 (Ev.pos c2 (Ev.bind e3 (Ev.ret _)))))))), s0, s1, hl, by omega, by omega⟩
        · exact ⟨stops, ch, l, p + 1 + 1, Ev.bind e (Ev.pos hne (Ev.bind e1 (Ev.bind e2 (Ev.neg c0 (Ev.neg c1 (Ev.neg c2 (Ev.ret _))))))), s0, s1, hl, by omega, by omega⟩
  · exact ⟨stops, ch, l, p, Ev.bind e (Ev.neg hne (Ev.ret _)), s0, s1, hl, by omega, by omega⟩
end Go.Proofs.Ytcklifkbodmoaaa.M
