/- FnMarkNear is true of every code: the look that is led by marks tells what a best way costs, and looks at no more nodes than there are. -/
import Derived.Test.YtjmpngfgfddpaaaPFLawsFnmarknear
import Derived.Test.YtjmpngfgfddpaaaMNear2
import Derived.Test.YtjmpngfgfddpaaaMDrawM
set_option linter.unusedVariables false
namespace Go.Proofs.Ytjmpngfgfddpaaa.Pure
open Go.RowKit Go.Proofs.Ytjmpngfgfddpaaa.P Go.Proofs.Ytjmpngfgfddpaaa.M
open Go.Proofs.YtjmpngfgfddpaaaV.PrintWords (rd)
open Go.Proofs.YtjmpngfgfddpaaaV.PrintMore

theorem FnMarkNear : laws_FnMarkNear.Pure := by
  intro c _ hl hw
  by_cases hC : (c.length : Int) > 1048576
  · exact ⟨0, by unfold laws_FnMarkNear.f; rw [if_pos hC]⟩
  apply Ev.get
  unfold laws_FnMarkNear.f
  refine Ev.neg hC ?_
  obtain ⟨n, l, ms, x, y, hd0, l0, m0⟩ := drawMarkBound_ev (by omega) hw
  have hd : Ev (fun k => spec_DrawMarkNear.f k c) (n, l, ms, x, y) := by
    unfold spec_DrawMarkNear.f
    exact Ev.bind hd0 (Ev.ret _)
  have hll : l.length ≤ 1048576 := by omega
  have hxl : ms.length ≤ 1048576 := by omega
  cases h : okMark n l ms x y with
  | false =>
    exact Ev.bind hd (Ev.bind (impl_markNear_bad h) (Ev.bind (spec_markNear_bad hll hxl h) (Ev.pos rfl (Ev.pos rfl (Ev.pos (by decide) (Ev.ret _))))))
  | true =>
    simp only [okMark, Bool.and_eq_true] at h
    obtain ⟨⟨h1, h2⟩, h3, h4⟩ := h
    obtain ⟨n1, n2, n3⟩ := Good.nodes h1
    obtain ⟨T, e1, e2, e3⟩ := tab_ev h1
    have hx := (inB_iff ⟨n1, n2⟩).1 h3
    have hy := (inB_iff ⟨n1, n2⟩).1 h4
    obtain ⟨v, f1, f2, v0, v1, v2⟩ := markNear_ok h1 h2 h3 h4 e1 e2 (fun i a b => (e3 i a b).2)
    have hrow := e2.row x hx.1 (by omega)
    have hlen := hrow.len
    have hval := hrow.leFar (y := y) hy.1 (by omega)
    refine Ev.bind hd (Ev.bind f1 (Ev.bind f2 (Ev.pos rfl (Ev.pos rfl (Ev.neg (Int.not_lt.2 hval.1) (Ev.bind (nearAll_ev h1 h3 (e3 x hx.1 hx.2).1) ?_))))))
    refine Ev.pos hy.1 (Ev.pos (show y < ((rd_L5 T x).length : Int) by omega) (Ev.pos rfl (Ev.pos v1 ?_)))
    by_cases hv : v > 0
    · exact Ev.pos hv (Ev.ret _)
    · refine Ev.neg hv ((Ev.ret _).eq ?_)
      have : rd (rd_L5 T x) y = 99999 := by
        rcases v2 with e | e
        · omega
        · exact e
      simp only
      rw [this]
      rfl
end Go.Proofs.Ytjmpngfgfddpaaa.Pure
section
namespace Go.Proofs.YtjmpngfgfddpaaaV.PrintWords
open Go.ChangeShapes Go.WideShapes
theorem sized_ints {H : Type} {enc : TypeId × Value → H} {P : Program} {W : World} {base : Nat} {spare : Nat → Bool} {held : Bool} {t e : TypeId} {k : IntKind} {a : Option Addr} {len cap : Nat} {d : DataW H} {ps : List MemPlace} {ts : List TypeId} {ds : List (DataW H)} {j : Nat}
    (hsz : (DataW.weightsEach P ts ds).all (· ≤ reachBytes) = true) (ht : ts[j]? = some t) (hd : ds[j]? = some d) (hu : P.underlying t = some (.slice e)) (he : P.underlying e = some (.int k)) (hc : P.cellsOf e = 1) {B : Nat} (hB : P.bytesOf e = B)
    (h : DataW.Trod enc P W base spare held t (.slice a len cap) d ps) : len * B ≤ 140737488351232 := by
  obtain ⟨fuel, hf⟩ := h
  rcases open_ints hu he hc hf with ⟨hcs, _⟩ | ⟨x, l, c, zs, hcs, _, hl, _, hz, hx, _, _⟩
  · simp [Value.cells] at hcs
    obtain ⟨rfl, rfl, rfl⟩ := hcs
    simp
  · simp [Value.cells] at hcs
    obtain ⟨rfl, rfl, rfl⟩ := hcs
    obtain ⟨hx, _⟩ := Prod.mk.inj hx
    subst hx
    have z := sized_slice hsz ht hd hu
    rw [hB] at z
    have hl2 : len ≤ zs.length := by
      rw [hz]
      split
      · exact hl
      · exact Nat.le_refl _
    have h1 : (lits (H := H) k (zs.take len)).length + (lits (H := H) k (zs.drop len)).length = zs.length := by
      simp [lits]
      omega
    rw [h1] at z
    exact Nat.le_trans (Nat.mul_le_mul_right _ hl2) z
end Go.Proofs.YtjmpngfgfddpaaaV.PrintWords
end
