/- What is known of marks is never more than over an arc. -/
import Derived.Test.YtjmpngfgfddpaaaMSeek
import Derived.Test.YtjmpngfgfddpaaaMBound
set_option linter.unusedVariables false
namespace Go.Proofs.Ytjmpngfgfddpaaa.M
open Go.RowKit Go.Proofs.Ytjmpngfgfddpaaa.P Go.Proofs.YtjmpngfgfddpaaaV.PrintWords Go.Proofs.YtjmpngfgfddpaaaV.PrintMore

/-- never more than over an arc -/
theorem heur_bound {n : Nat} {l : List S33} (hg : Good n l) {T : List (List Int)} (h : Tab n l T) {ms : List Int} (hr : ∀ m ∈ ms, 0 ≤ m ∧ m < n) {t : Int} (ht : 0 ≤ t ∧ t < n) : Heur n l t (fun v => clampB (bndRaw T v t ms)) := by
  have hFar : Far = (99999 : Int) := rfl
  refine ⟨fun y h0 h1 => ?_, fun a ha hb => ?_, ?_⟩
  · have := bndRaw_bounds h (x := y) (y := t) ⟨h0, h1⟩ ht hr
    unfold clampB
    split <;> omega
  · obtain ⟨a0, a1, a2, a3, a4, a5⟩ := hg a ha
    have bv := bndRaw_bounds h (x := a.f1) (y := t) ⟨a2, a3⟩ ht hr
    have hv : bndRaw T a.f1 t ms ≤ 49999 := by
      unfold clampB at hb
      split at hb <;> omega
    have hv2 := bndRaw_gap h ⟨a2, a3⟩ ht hr hv
    have hq := (bndRaw_le ms bv.1).1 (Int.le_refl (bndRaw T a.f1 t ms))
    have hu : bndRaw T a.f0 t ms ≤ a.f2 + bndRaw T a.f1 t ms := by
      refine (bndRaw_le ms (by omega)).2 (fun m hm => ?_)
      obtain ⟨q1, q2⟩ := hq m hm
      have hm' := hr m hm
      have Dm := h.row m hm'.1 hm'.2
      have Du := h.row a.f0 a0 a1
      have Dv := h.row a.f1 a2 a3
      have Dt := h.row t ht.1 ht.2
      refine ⟨fun e => ?_, fun e => ?_⟩
      · have := dist_arc hg Dm ha (by omega)
        have := q1 (by omega)
        omega
      · have q := q2 e
        have bm := Dv.leFar hm'.1 hm'.2
        have bt := Dt.leFar hm'.1 hm'.2
        have nf : rd (rd_L5 T a.f1) m ≠ 99999 := by
          intro e2
          have := bt.2.2 e
          omega
        have := Du.le hm'.1 hm'.2 ((Walk.one ha).append (Dv.walk m hm'.1 hm'.2 (by omega))) (by have := bm.2.2 nf; omega)
        omega
    have bu := bndRaw_bounds h (x := a.f0) (y := t) ⟨a0, a1⟩ ht hr
    have e1 : clampB (bndRaw T a.f0 t ms) = bndRaw T a.f0 t ms := by unfold clampB; rw [if_neg (by omega)]
    have e2 : clampB (bndRaw T a.f1 t ms) = bndRaw T a.f1 t ms := by unfold clampB; rw [if_neg (by omega)]
    show clampB (bndRaw T a.f0 t ms) ≠ 99999 ∧ clampB (bndRaw T a.f0 t ms) ≤ a.f2 + clampB (bndRaw T a.f1 t ms)
    rw [e1, e2]
    exact ⟨by omega, hu⟩
  · have b := bndRaw_bounds h (x := t) (y := t) ht ht hr
    have : bndRaw T t t ms ≤ 0 := (bndRaw_le ms (by decide)).2 (fun m hm => ⟨fun _ => by omega, fun _ => by omega⟩)
    show clampB (bndRaw T t t ms) = 0
    unfold clampB
    rw [if_neg (by omega)]
    omega
end Go.Proofs.Ytjmpngfgfddpaaa.M
