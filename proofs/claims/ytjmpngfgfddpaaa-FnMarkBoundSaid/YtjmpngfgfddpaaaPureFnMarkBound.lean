/- FnMarkBound is true of every code: of a drawn net, marks and two nodes, what is known of marks is no more than what it costs. -/
import Derived.Test.YtjmpngfgfddpaaaPFLawsFnmarkbound
import Derived.Test.YtjmpngfgfddpaaaMBound
import Derived.Test.YtjmpngfgfddpaaaMDrawM
set_option linter.unusedVariables false
namespace Go.Proofs.Ytjmpngfgfddpaaa.Pure
open Go.RowKit Go.Proofs.Ytjmpngfgfddpaaa.P Go.Proofs.Ytjmpngfgfddpaaa.M
open Go.Proofs.YtjmpngfgfddpaaaV.PrintWords (rd)

theorem FnMarkBound : laws_FnMarkBound.Pure := by
  intro c _ hl hw
  by_cases hC : (c.length : Int) > 1048576
  · exact ⟨0, by unfold laws_FnMarkBound.f; rw [if_pos hC]⟩
  apply Ev.get
  unfold laws_FnMarkBound.f
  refine Ev.neg hC ?_
  obtain ⟨n, l, ms, x, y, hd, l0, m0⟩ := drawMarkBound_ev (by omega) hw
  have hll : l.length ≤ 1048576 := by omega
  have hxl : ms.length ≤ 1048576 := by omega
  cases h : okMark n l ms x y with
  | false =>
    have hs := spec_markBound_bad hll hxl h
    refine Ev.bind hd (Ev.bind (impl_markBound_bad h) (Ev.bind hs (Ev.pos rfl (Ev.pos (by decide) ?_))))
    refine Ev.step (fun k => by simp only [laws_FnMarkBound.j0]; rfl) ?_
    exact Ev.pos (by trivial) (Ev.bind hs (Ev.ret _))
  | true =>
    simp only [okMark, Bool.and_eq_true] at h
    obtain ⟨⟨h1, h2⟩, h3, h4⟩ := h
    obtain ⟨n1, n2, n3⟩ := Good.nodes h1
    obtain ⟨T, e1, e2, e3⟩ := tab_ev h1
    have hx := (inB_iff ⟨n1, n2⟩).1 h3
    have hy := (inB_iff ⟨n1, n2⟩).1 h4
    obtain ⟨q1, q2⟩ := okL_len h2
    have hmem := mem_okL ⟨n1, n2⟩ q1
    have hmem' : ∀ m ∈ ms, 0 ≤ m ∧ m < (n.toNat : Int) := fun m hm => by have := hmem m hm; omega
    have hs := spec_markBound_ok h1 h2 h3 h4 e2 (fun i a b => (e3 i a b).2)
    have hb := bndRaw_bounds e2 (x := x) (y := y) (by omega) (by omega) hmem'
    have hc : 0 ≤ clampB (bndRaw T x y ms) := by unfold clampB; split <;> omega
    have hle := clamp_le_dist e2 (x := x) (y := y) (by omega) (by omega) hmem'
    have hlen := (e2.row x (by omega) (by omega)).len
    refine Ev.bind hd (Ev.bind (impl_markBound_ok h1 h2 h3 h4 e1 e2) (Ev.bind hs (Ev.pos rfl (Ev.neg (by omega) ?_))))
    dsimp only
    rw [show decide ((ms.length : Int) > 5) = false from decide_eq_false (by omega)]
    refine Ev.step (fun k => by simp only [laws_FnMarkBound.j0]; rfl) ?_
    refine Ev.neg (by simp) (Ev.bind (nearAll_ev h1 h3 (e3 x hx.1 hx.2).1) ?_)
    refine Ev.pos hy.1 (Ev.pos (by omega) ?_)
    simp only [Option.bind_some, List.nil_append, List.length_nil]
    refine Ev.pos (by omega) (Ev.pos (by omega) (Ev.pos hle ?_))
    have hok : okL n (ms ++ [x]) = true := by
      simp only [okL, List.all_append, List.all_cons, List.all_nil, q1, h3, List.length_append, List.length_cons, List.length_nil, Bool.and_self, Bool.true_and, decide_eq_true_eq]
      omega
    have hok0 : okL n [] = true := by simp [okL]
    have hself := clamp_self e2 (x := x) (y := y) (by omega) (by omega) hmem'
    have i1 := impl_markBound_ok h1 hok h3 h4 e1 e2
    rw [hself] at i1
    have i2 := impl_markBound_ok h1 hok0 h3 h4 e1 e2
    exact Ev.bind i1 (Ev.pos rfl (Ev.bind i2 (Ev.ret _)))
end Go.Proofs.Ytjmpngfgfddpaaa.Pure
