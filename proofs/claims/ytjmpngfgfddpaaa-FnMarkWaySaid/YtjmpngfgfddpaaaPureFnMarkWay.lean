/- FnMarkWay is true of every code: of a drawn net, marks and two nodes, what is known of marks is no more than over an arc. -/
import Derived.Test.YtjmpngfgfddpaaaPFLawsFnmarkway
import Derived.Test.YtjmpngfgfddpaaaMHeur
import Derived.Test.YtjmpngfgfddpaaaMDrawM
set_option linter.unusedVariables false
namespace Go.Proofs.Ytjmpngfgfddpaaa.Pure
open Go.RowKit Go.Proofs.Ytjmpngfgfddpaaa.P Go.Proofs.Ytjmpngfgfddpaaa.M
open Go.Proofs.YtjmpngfgfddpaaaV.PrintWords (rd)

theorem FnMarkWay : laws_FnMarkWay.Pure := by
  intro c _ hl hw
  by_cases hC : (c.length : Int) > 1048576
  · exact ⟨0, by unfold laws_FnMarkWay.f; rw [if_pos hC]⟩
  apply Ev.get
  unfold laws_FnMarkWay.f
  refine Ev.neg hC ?_
  obtain ⟨n, l, ms, x, y, hd, l0, m0⟩ := drawMarkBound_ev (by omega) hw
  have hll : l.length ≤ 1048576 := by omega
  have hxl : ms.length ≤ 1048576 := by omega
  cases h : okMark n l ms x y with
  | false =>
    have hs := spec_markBound_bad hll hxl h
    refine Ev.bind hd (Ev.bind (impl_markBound_bad h) (Ev.bind hs (Ev.pos rfl ?_)))
    refine Ev.step (fun k => by simp only [laws_FnMarkWay.j0]; rfl) ?_
    exact Ev.pos (by decide) (Ev.bind hs (Ev.ret _))
  | true =>
    simp only [okMark, Bool.and_eq_true] at h
    obtain ⟨⟨h1, h2⟩, h3, h4⟩ := h
    obtain ⟨n1, n2, n3⟩ := Good.nodes h1
    obtain ⟨T, e1, e2, e3⟩ := tab_ev h1
    have hg := netOk_good h1
    have hx := (inB_iff ⟨n1, n2⟩).1 h3
    have hy := (inB_iff ⟨n1, n2⟩).1 h4
    obtain ⟨q1, q2⟩ := okL_len h2
    have hmem := mem_okL ⟨n1, n2⟩ q1
    have hmem' : ∀ m ∈ ms, 0 ≤ m ∧ m < (n.toNat : Int) := fun m hm => by have := hmem m hm; omega
    have hH := heur_bound hg e2 hmem' (t := y) (by omega)
    have hs := spec_markBound_ok h1 h2 h3 h4 e2 (fun i a b => (e3 i a b).2)
    have hev : ∀ v : Int, 0 ≤ v → v < n → Ev (fun k => impl_MarkBound.f k n l ms v y) (clampB (bndRaw T v y ms)) := fun v v0 v1 => impl_markBound_ok h1 h2 ((inB_iff ⟨n1, n2⟩).2 ⟨v0, v1⟩) h4 e1 e2
    have hval := hH.val
    have harc := hH.arc
    have hzero := hH.zero
    have hvx := hval x (by omega) (by omega)
    refine Ev.bind hd (Ev.bind (hev x hx.1 hx.2) (Ev.bind hs (Ev.pos rfl ?_)))
    rw [show decide (clampB (bndRaw T x y ms) < 0) = false from decide_eq_false (by omega)]
    refine Ev.step (fun k => by simp only [laws_FnMarkWay.j0]; rfl) (Ev.neg (by simp) ?_)
    refine downto (P := fun i => Ev (fun k => laws_FnMarkWay.l0 k ms y (i : Int) n l) true) (n := l.length) ?_ ?_
    · refine Ev.step (G := fun k => (impl_MarkBound.f k n l ms y y).bind fun t114 => (some (t114 == 0))) (fun k => by simp only [laws_FnMarkWay.l0]; rw [if_neg (by omega)]) ?_
      refine Ev.bind (hev y hy.1 hy.2) ((Ev.ret _).eq ?_)
      rw [hzero]
      rfl
    · intro i hi hnext
      have ha := List.getElem_mem hi
      obtain ⟨a0, a1, a2, a3, a4, a5⟩ := hg _ ha
      have hxe := rd_T33_at l i hi
      have q := harc _ ha
      have v1 := hval l[i].f1 a2 a3
      have v0 := hval l[i].f0 a0 a1
      refine Ev.step (fun k => by simp only [laws_FnMarkWay.l0]; rw [if_pos (by omega), if_pos (by omega), hxe]) ?_
      refine Ev.bind (hev l[i].f1 a2 (by omega)) ?_
      by_cases hf : clampB (bndRaw T l[i].f1 y ms) < 99999
      · refine Ev.pos hf (Ev.bind (hev l[i].f0 a0 (by omega)) (Ev.bind (hev l[i].f1 a2 (by omega)) ?_))
        have := q (by omega)
        refine Ev.neg ?_ (by rw [w64s (by omega)]; exact hnext)
        rw [w64 (by omega)]
        omega
      · exact Ev.neg hf (by rw [w64s (by omega)]; exact hnext)
end Go.Proofs.Ytjmpngfgfddpaaa.Pure
