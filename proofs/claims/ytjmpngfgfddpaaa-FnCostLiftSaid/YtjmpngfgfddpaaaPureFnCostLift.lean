/- FnCostLift is true of every code: with heights, each best way costs as before, less the height where it begins, and the height where it ends. -/
import Derived.Test.YtjmpngfgfddpaaaMLift
import Derived.Test.YtjmpngfgfddpaaaMTab
import Derived.Test.YtjmpngfgfddpaaaMDraw
import Derived.Test.YtjmpngfgfddpaaaPFSpecDrawcostlift
import Derived.Test.YtjmpngfgfddpaaaPFLawsFncostlift
import Derived.Test.YtjmpngfgfddpaaaMNearAll
import Derived.Test.YtjmpngfgfddpaaaMWk
set_option linter.unusedVariables false
namespace Go.Proofs.Ytjmpngfgfddpaaa.M
open Go.RowKit Go.Proofs.Ytjmpngfgfddpaaa.P Go.Proofs.YtjmpngfgfddpaaaV.PrintWords Go.Proofs.YtjmpngfgfddpaaaV.PrintMore

def liftA (high : List Int) (a : S33) : S33 := ⟨a.f0, a.f1, liftOne high a, a.f3, a.f4⟩
theorem priced_lift (high : List Int) (l : List S33) : priced (l.map (liftOne high)) l = l.map (liftA high) := by
  apply List.ext_getElem (by simp [priced])
  intro j h1 h2
  have hj : j < l.length := by simpa [priced] using h1
  simp [priced, liftA, List.getD, hj]
theorem netOk_lift {nodes : Int} {l : List S33} {high : List Int} (h : netOkB nodes l = true) (hc : (l.map (liftOne high)).all costB = true) : netOkB nodes (l.map (liftA high)) = true := by
  simp only [netOkB, Bool.and_eq_true, Bool.not_eq_true', decide_eq_true_eq, List.any_eq_false] at h ⊢
  refine ⟨⟨h.1.1, by simpa using h.1.2⟩, fun x hx => ?_⟩
  obtain ⟨a, ha, rfl⟩ := List.mem_map.1 hx
  have h1 := Bool.eq_false_iff.2 (h.2 a ha)
  have h2 : costB (liftOne high a) = true := List.all_eq_true.1 hc _ (List.mem_map_of_mem ha)
  simp only [badArc, Bool.or_eq_false_iff] at h1
  obtain ⟨⟨⟨⟨b1, b2⟩, b3⟩, b4⟩, b5⟩ := h1
  simp [badArc, liftA, b1, b2, b4, b5, h2]
/-- heights of the nodes -/
structure Highs (n : Nat) (high : List Int) : Prop where
  val : ∀ y : Int, 0 ≤ y → y < n → 0 ≤ rd high y ∧ rd high y ≤ 99
theorem liftOne_val {n : Nat} {high : List Int} (hh : Highs n high) {a : S33} (h0 : 0 ≤ a.f0) (h1 : a.f0 < n) (h2 : 0 ≤ a.f1) (h3 : a.f1 < n) (h4 : 0 ≤ a.f2) (h5 : a.f2 ≤ 99) : liftOne high a = a.f2 - rd high a.f0 + rd high a.f1 := by
  have u := hh.val _ h0 h1
  have v := hh.val _ h2 h3
  unfold liftOne
  rw [w64 (n := a.f2 - rd high a.f0) (by omega), w64 (by omega)]
theorem walk_lift {n : Nat} {l : List S33} (hg : Good n l) {high : List Int} (hh : Highs n high) {s y c : Int} (w : Walk l s y c) : Walk (l.map (liftA high)) s y (c - rd high s + rd high y) := by
  obtain ⟨k, w⟩ := w
  induction w with
  | nil =>
    have : (0 : Int) - rd high s + rd high s = 0 := by omega
    rw [this]
    exact Walk.nil
  | @snoc a k c w ha ih =>
    obtain ⟨g0, g1, g2, g3, g4, g5⟩ := hg a ha
    have e := liftOne_val hh g0 g1 g2 g3 g4 g5
    have := Walk.snoc (a := liftA high a) ih (List.mem_map_of_mem ha)
    have e2 : c - rd high s + rd high a.f0 + (liftA high a).f2 = c + a.f2 - rd high s + rd high a.f1 := by
      show c - rd high s + rd high a.f0 + liftOne high a = _
      rw [e]
      omega
    rw [e2] at this
    exact this
theorem walk_drop {n : Nat} {l : List S33} (hg : Good n l) {high : List Int} (hh : Highs n high) {s y c : Int} (w : Walk (l.map (liftA high)) s y c) : Walk l s y (c + rd high s - rd high y) := by
  obtain ⟨k, w⟩ := w
  induction w with
  | nil =>
    have : (0 : Int) + rd high s - rd high s = 0 := by omega
    rw [this]
    exact Walk.nil
  | @snoc b k c w hb ih =>
    obtain ⟨a, ha, rfl⟩ := List.mem_map.1 hb
    obtain ⟨g0, g1, g2, g3, g4, g5⟩ := hg a ha
    have e := liftOne_val hh g0 g1 g2 g3 g4 g5
    have := Walk.snoc (a := a) (c := c + rd high s - rd high a.f0) ih ha
    have e2 : c + rd high s - rd high a.f0 + a.f2 = c + (liftA high a).f2 + rd high s - rd high a.f1 := by
      show _ = c + liftOne high a + rd high s - rd high a.f1
      rw [e]
      omega
    rw [e2] at this
    exact this
theorem dist_lift {n : Nat} {l : List S33} (hg : Good n l) {high : List Int} (hh : Highs n high) {s : Int} {D E : List Int} (hD : IsDist n l s D) (hE : IsDist n (l.map (liftA high)) s E) (hs : 0 ≤ s ∧ s < n) {y : Int} (hy : 0 ≤ y ∧ y < n) :
    (rd D y = 99999 ∧ rd E y = 99999) ∨ (rd D y < 99999 ∧ 0 ≤ rd D y ∧ rd E y ≠ 99999 ∧ rd E y = rd D y - rd high s + rd high y) := by
  have hFar : Far = (99999 : Int) := rfl
  have u := hh.val s hs.1 hs.2
  have v := hh.val y hy.1 hy.2
  have b1 := hD.leFar hy.1 hy.2
  have b2 := hE.leFar hy.1 hy.2
  by_cases h1 : rd D y = 99999
  · left
    refine ⟨h1, ?_⟩
    by_cases h2 : rd E y = 99999
    · exact h2
    · have w := walk_drop hg hh (hE.walk y hy.1 hy.2 h2)
      have := hD.le hy.1 hy.2 w (by omega)
      exact absurd h1 this.1
  · right
    have w := walk_lift hg hh (hD.walk y hy.1 hy.2 h1)
    have q := hE.le hy.1 hy.2 w (by omega)
    have w2 := walk_drop hg hh (hE.walk y hy.1 hy.2 q.1)
    have q2 := hD.le hy.1 hy.2 w2 (by omega)
    exact ⟨by omega, by omega, q.1, by omega⟩
theorem lifted_true {nodes : Int} {l : List S33} {high : List Int} (h : (lifted nodes l high).2 = true) : lifted nodes l high = (l.map (liftOne high), true) ∧ netOkB nodes l = true ∧ (l.map (liftOne high)).all costB = true ∧ (high.length : Int) = nodes ∧ high.all costB = true ∧ metricB nodes l (l.map (liftOne high)) = true := by
  unfold lifted at h ⊢
  by_cases hc : liftB nodes l high = true ∧ metricB nodes l (l.map (liftOne high)) = true
  · rw [if_pos hc]
    obtain ⟨h1, h2⟩ := hc
    have h3 := h2
    simp only [liftB, metricB, costsB, Bool.and_eq_true, decide_eq_true_eq] at h1 h3
    exact ⟨rfl, h1.1, h3.2.2, h1.2.1, h1.2.2, h2⟩
  · rw [if_neg hc] at h
    cases h
theorem highs_of {nodes : Int} {high : List Int} (hl : (high.length : Int) = nodes) (ha : high.all costB = true) : Highs nodes.toNat high := ⟨fun y h0 h1 => by
  obtain ⟨y, rfl⟩ := Int.eq_ofNat_of_zero_le h0
  have hy : y < high.length := by omega
  have := List.all_eq_true.1 ha _ (List.getElem_mem hy)
  simp only [costB, Bool.and_eq_true, decide_eq_true_eq] at this
  rw [rd_at0 _ y hy]
  exact this⟩
end Go.Proofs.Ytjmpngfgfddpaaa.M
namespace Go.Proofs.Ytjmpngfgfddpaaa.M
open Go.RowKit Go.Proofs.Ytjmpngfgfddpaaa.P Go.Proofs.YtjmpngfgfddpaaaV.PrintWords Go.Proofs.YtjmpngfgfddpaaaV.PrintMore

theorem high_l0 (d : List Int) (n : Int) (l : List S33) (hd : d.length ≤ 1048576) : ∃ h : List Int, Ev (fun k => spec_DrawCostLift.l0 k d 0 n l) (n, l, h) ∧ h.length = d.length := by
  have key : ∀ (m : Nat) (d : List Int) (i : Nat), m + i = d.length → d.length ≤ 1048576 → ∃ h : List Int, Ev (fun k => spec_DrawCostLift.l0 k d (i : Int) n l) (n, l, h) ∧ h.length = d.length := by
    intro m
    induction m with
    | zero =>
      intro d i hm hd
      refine ⟨d, Ev.step (G := fun _ => some (n, l, d)) (fun k => ?_) (Ev.ret _), rfl⟩
      simp only [spec_DrawCostLift.l0]
      rw [if_neg (by omega)]
    | succ m ih =>
      intro d i hm hd
      by_cases hc : rd d (i : Int) > 99
      · obtain ⟨h, e, hl⟩ := ih (d.set i 99) (i + 1) (by simp; omega) (by simpa using hd)
        refine ⟨h, Ev.step (fun k => ?_) e, by simpa using hl⟩
        simp only [spec_DrawCostLift.l0]
        rw [if_pos (by omega), if_pos (by omega), if_pos hc, w64s (by omega), Int.toNat_natCast]
      · obtain ⟨h, e, hl⟩ := ih d (i + 1) (by omega) hd
        refine ⟨h, Ev.step (fun k => ?_) e, hl⟩
        simp only [spec_DrawCostLift.l0]
        rw [if_pos (by omega), if_pos (by omega), if_neg hc, w64s (by omega)]
  exact key d.length d 0 (by omega) hd
theorem high_l1 {b : List Int} (hb : Byt b) (l : List S33) {n : Int} (hn : 0 ≤ n ∧ n ≤ 9) : ∀ (m : Nat) (i : Nat) (p : Int) (xs : List Int), (m : Int) + i = n → 0 ≤ p → p + m ≤ 900000 → xs.length + m ≤ 100 →
    ∃ h : List Int, Ev (fun k => spec_DrawCostLift.l1 k xs (i : Int) b p n l) (n, l, h) ∧ h.length ≤ 100
  | 0, i, p, xs, hm, h0, h1, hx => by
    refine ⟨xs, Ev.step (G := fun _ => some (n, l, xs)) (fun k => ?_) (Ev.ret _), by omega⟩
    simp only [spec_DrawCostLift.l1]
    rw [if_neg (by omega)]
  | m + 1, i, p, xs, hm, h0, h1, hx => by
    obtain ⟨c, e1, _⟩ := pick_ev (b := b) (p := p) 6 hb h0 (by omega)
    obtain ⟨h, e2, hl⟩ := high_l1 hb l hn m (i + 1) (p + 1) (xs ++ [c]) (by omega) (by omega) (by omega) (by simp; omega)
    have hx2 : xs.length < 17592186044416 := by omega
    refine ⟨h, ?_, hl⟩
    refine Ev.step (fun k => by simp only [spec_DrawCostLift.l1]; rw [if_pos (by omega), w64s (by omega)]) ?_
    exact Ev.bind e1 (Ev.pos hx2 e2)
theorem drawCostLift_ev {c : List Int} (hl : c.length ≤ 1048576) (hw : ∀ x ∈ c, (Lit.int .u8 x).wf = true) : ∃ (n : Int) (l : List S33) (h : List Int), Ev (fun k => spec_DrawCostLift.f k c) (n, l, h) ∧ l.length ≤ 13 ∧ h.length ≤ 100 := by
  obtain ⟨b, e0, hb⟩ := open_ev hl hw
  obtain ⟨n, l, p, e1, n0, n1, l0, la, p0, p1⟩ := anyNet_ev hb (p := 0) (by omega) (by omega)
  have hfree : ∀ p : Int, 0 ≤ p → p ≤ 800000 → ∃ h : List Int, Ev (fun k => spec_DrawCostLift.j0 k false b p n l) (n, l, h) ∧ h.length ≤ 100 := by
    intro p hp0 hp1
    obtain ⟨h, e, hh⟩ := high_l1 hb l ⟨n0, n1⟩ n.toNat 0 p [] (by omega) hp0 (by omega) (by simp; omega)
    exact ⟨h, Ev.step (fun k => by simp only [spec_DrawCostLift.j0]; rfl) (Ev.neg (by simp) e), hh⟩
  have key : ∃ h : List Int, Ev (fun k => (spec_l1Ok.f k n l).bind fun t111 => (if t111 = true then ((spec_l30Rd_pick.f k b p 3).bind fun bt112 => (spec_DrawCostLift.j0 k (decide (bt112.1 > 0)) b bt112.2 n l)) else (spec_DrawCostLift.j0 k false b p n l))) (n, l, h) ∧ h.length ≤ 100 := by
    by_cases h1 : netOkB n l = true
    · obtain ⟨r, e2, _⟩ := pick_ev (b := b) (p := p) 3 hb (by omega) (by omega)
      by_cases hr : r > 0
      · obtain ⟨v, e3, _, hv⟩ := pick_ev (b := b) (p := p + 1) n hb (by omega) (by omega)
        obtain ⟨g1, g2, g3⟩ := Good.nodes h1
        have hv' := hv (by omega)
        have hb1 : netOkB n (l.map swapA) = true := (netOk_swap n l).trans h1
        obtain ⟨D, f1, f2, f3⟩ := from_dist hb1 (s := v) ⟨hv'.1, by omega⟩
        have hDl := f3.len
        obtain ⟨h, e4, hh⟩ := high_l0 D n l (by omega)
        refine ⟨h, Ev.bind (l1Ok_netOkB n l (by omega)) (Ev.pos h1 (Ev.bind e2 ?_)), by omega⟩
        simp only
        rw [decide_eq_true hr]
        refine Ev.step (fun k => by simp only [spec_DrawCostLift.j0]; rfl) (Ev.pos (by first | rfl | trivial) ?_)
        exact Ev.bind (l1Back_ev n l (by omega)) (Ev.bind e3 (Ev.bind f2 e4))
      · obtain ⟨h, e4, hh⟩ := hfree (p + 1) (by omega) (by omega)
        refine ⟨h, Ev.bind (l1Ok_netOkB n l (by omega)) (Ev.pos h1 (Ev.bind e2 ?_)), hh⟩
        simp only
        rw [decide_eq_false hr]
        exact e4
    · obtain ⟨h, e4, hh⟩ := hfree p (by omega) (by omega)
      exact ⟨h, Ev.bind (l1Ok_netOkB n l (by omega)) (Ev.neg h1 e4), hh⟩
  obtain ⟨h, e, hh⟩ := key
  refine ⟨n, l, h, ?_, l0, hh⟩
  unfold spec_DrawCostLift.f
  rw [e0]
  simp only [Option.bind_some]
  exact Ev.bind e1 e
end Go.Proofs.Ytjmpngfgfddpaaa.M
namespace Go.Proofs.Ytjmpngfgfddpaaa.Pure
open Go.RowKit Go.Proofs.Ytjmpngfgfddpaaa.P Go.Proofs.Ytjmpngfgfddpaaa.M
open Go.Proofs.YtjmpngfgfddpaaaV.PrintWords (rd)

theorem FnCostLift : laws_FnCostLift.Pure := by
  intro c _ hl hw
  by_cases hC : (c.length : Int) > 1048576
  · exact ⟨0, by unfold laws_FnCostLift.f; rw [if_pos hC]⟩
  apply Ev.get
  unfold laws_FnCostLift.f
  refine Ev.neg hC ?_
  obtain ⟨n, l, hi, hd, l0, hh0⟩ := drawCostLift_ev (by omega) hw
  have e1 := impl_CostLift_ev n l hi (by omega)
  have e2 := spec_CostLift_ev n l hi (by omega) (by omega)
  have hlen := lifted_length n l hi
  have hk := wkInts_self (lifted n l hi).1 (by omega)
  refine Ev.bind hd (Ev.bind e1 (Ev.bind e2 (Ev.neg (by simp) (Ev.bind hk (Ev.pos rfl ?_)))))
  cases hf : (lifted n l hi).2 with
  | false =>
    simp only
    refine Ev.step (fun k => by simp only [laws_FnCostLift.j0]; rfl) (Ev.pos (by first | rfl | trivial) (Ev.pos (by first | rfl | trivial) ?_))
    exact Ev.bind hk (Ev.ret _)
  | true =>
    obtain ⟨q1, q2, q3, q4, q5, q6⟩ := lifted_true hf
    obtain ⟨n1, n2, n3⟩ := Good.nodes q2
    have hg := netOk_good q2
    have hh := highs_of q4 q5
    have hb1 := netOk_lift q2 q3
    have hN := impl_CostNet_ev n l (l.map (liftOne hi)) (by omega)
    unfold costNet at hN
    rw [if_pos q6, priced_lift] at hN
    simp only
    rw [q1]
    refine Ev.step (fun k => by simp only [laws_FnCostLift.j0]; rfl) (Ev.neg (by simp) (Ev.bind hN ?_))
    simp only
    have hP := downto (P := fun s => Ev (fun k => laws_FnCostLift.l0 k hi (s : Int) n l n (l.map (liftA hi))) true) (n := n.toNat) ?_ ?_
    · simpa using hP
    · refine Ev.step (G := fun _ => some true) (fun k => ?_) (Ev.ret _)
      simp only [laws_FnCostLift.l0]
      rw [if_neg (by omega)]
    · intro s hs hnext
      have hin : inB n (s : Int) = true := (inB_iff ⟨n1, n2⟩).2 ⟨by omega, by omega⟩
      obtain ⟨D, d1, d2, d3⟩ := from_dist q2 (s := (s : Int)) ⟨by omega, by omega⟩
      obtain ⟨E, f1, f2, f3⟩ := from_dist hb1 (s := (s : Int)) ⟨by omega, by omega⟩
      have hDl := d3.len
      have hEl := f3.len
      refine Ev.step (fun k => by simp only [laws_FnCostLift.l0]; rw [if_pos (show (s : Int) < n by omega)]) ?_
      refine Ev.bind (nearAll_ev q2 hin d1) (Ev.bind (nearAll_ev hb1 hin f1) ?_)
      have hQ := downto (P := fun y => Ev (fun k => laws_FnCostLift.l1 k hi (s : Int) D E (y : Int) n l n (l.map (liftA hi))) true) (n := n.toNat) ?_ ?_
      · simpa using hQ
      · refine Ev.step (fun k => ?_) hnext
        simp only [laws_FnCostLift.l1]
        rw [if_neg (by omega), w64s (by omega)]
      · intro y hy hn
        have key := dist_lift hg hh d3 f3 (y := (y : Int)) ⟨by omega, by omega⟩ ⟨by omega, by omega⟩
        have u := hh.val (s : Int) (by omega) (by omega)
        have v := hh.val (y : Int) (by omega) (by omega)
        have b1 := d3.leFar (y := (y : Int)) (by omega) (by omega)
        refine Ev.step (fun k => ?_) hn
        simp only [laws_FnCostLift.l1]
        rw [if_pos (show (y : Int) < n by omega), if_pos (show (0 : Int) ≤ (y : Int) by omega), if_pos (show (y : Int) < D.length by omega), w64s (show y < 9223372036854775807 by omega)]
        rcases key with ⟨k1, k2⟩ | ⟨k1, k2, k3, k4⟩
        · rw [if_pos k1, if_pos (show (y : Int) < E.length by omega), if_pos k2, if_neg (by omega)]
        · rw [if_neg (by omega), if_pos k1, if_pos (show (y : Int) < E.length by omega), if_pos (by omega), if_pos (by omega), if_pos (by omega), if_pos (by rw [k4, w64 (n := rd D (y : Int) - rd hi (s : Int)) (by omega), w64 (by omega)])]
end Go.Proofs.Ytjmpngfgfddpaaa.Pure
section
namespace Go.Proofs.YtjmpngfgfddpaaaV.PrintWords
open Go.ChangeShapes Go.WideShapes
theorem sized_ints {H : Type} {enc : TypeId × Value → H} {P : Program} {W : World} {base : Nat} {spare : Nat → Bool} {held : Bool} {t e : TypeId} {k : IntKind} {a : Option Addr} {len cap : Nat} {d : DataW H} {ps : List MemPlace} {ts : List TypeId} {ds : List (DataW H)} {j : Nat}
    (hsz : (DataW.weightsEach P ts ds).all (· ≤ reachBytes) = true) (ht : ts[j]? = some t) (hd : ds[j]? = some d) (hu : P.underlying t = some (.slice e)) (he : P.underlying e = some (.int k)) (hc : P.cellsOf e = 1) {B : Nat} (hB : P.bytesOf e = B)
    (h : DataW.Trod enc P W base spare held t (.slice a len cap) d ps) : len * B ≤ 140737488351232 := by
  obtain ⟨fuel, hf⟩ := h
  rcases open_ints hu he hc hf with ⟨hcs, _⟩ | ⟨x, l, c, zs, hcs, _, hl, _, hz, hx, _, _⟩
  · simp [Value.cells] at hcs
    obtain ⟨rfl, rfl, rfl⟩ := hcs
    simp
  · simp [Value.cells] at hcs
    obtain ⟨rfl, rfl, rfl⟩ := hcs
    obtain ⟨hx, _⟩ := Prod.mk.inj hx
    subst hx
    have z := sized_slice hsz ht hd hu
    rw [hB] at z
    have hl2 : len ≤ zs.length := by
      rw [hz]
      split
      · exact hl
      · exact Nat.le_refl _
    have h1 : (lits (H := H) k (zs.take len)).length + (lits (H := H) k (zs.drop len)).length = zs.length := by
      simp [lits]
      omega
    rw [h1] at z
    exact Nat.le_trans (Nat.mul_le_mul_right _ hl2) z
end Go.Proofs.YtjmpngfgfddpaaaV.PrintWords
end
