/- FnPartOver is true of every code: what is told over edge nodes is no less than the best way, far but for edge nodes, and no more than an arc between parts. -/
import Derived.Test.YtblpdfgplifccaaPFLawsFnpartover
import Derived.Test.YtblpdfgplifccaaMOver2
import Derived.Test.YtblpdfgplifccaaMNearAll
import Derived.Test.YtblpdfgplifccaaMDrawP
import Derived.Test.YtblpdfgplifccaaMWk
set_option linter.unusedVariables false
namespace Go.Proofs.Ytblpdfgplifccaa.Pure
open Go.RowKit Go.Proofs.Ytblpdfgplifccaa.P Go.Proofs.Ytblpdfgplifccaa.M
open Go.Proofs.YtblpdfgplifccaaV.PrintWords (rd)
theorem wkInP_ev (xs : List Int) (v : Int) (hl : xs.length ≤ 1048576) (hv : v ∈ xs) : Ev (fun k => laws_wkIn.f k xs v) true := by
  show Ev (fun k => laws_wkIn.l0 k xs v 0) true
  have h := downto (P := fun i => v ∈ xs.drop i → Ev (fun k => laws_wkIn.l0 k xs v (i : Int)) true) (n := xs.length) ?_ ?_
  · exact h (by simpa using hv)
  · intro hm
    rw [List.drop_length] at hm
    cases hm
  · intro i hi hnext hm
    rw [List.drop_eq_getElem_cons hi, List.mem_cons] at hm
    by_cases e : xs[i] = v
    · refine Ev.step (fun k => ?_) (Ev.ret _)
      simp only [laws_wkIn.l0]
      rw [if_pos (by omega), if_pos (by omega), rd_at0 xs i hi, if_pos e]
    · refine Ev.step (fun k => ?_) (hnext (hm.resolve_left (fun h => e h.symm)))
      simp only [laws_wkIn.l0]
      rw [if_pos (by omega), if_pos (by omega), rd_at0 xs i hi, if_neg e, w64s (by omega)]
theorem overF_ge {n : Nat} {l : List S33} {p : List Int} {T : List (List Int)} (hT : Tab n (inArcs p l) T) {a : Int} (ha : 0 ≤ a ∧ a < n) {D : List Int} (hD : IsDist n l a D) {b : Int} (hb : 0 ≤ b ∧ b < n) : rd D b ≤ overF p l T a b := by
  unfold overF ovF
  by_cases h : Over p (edgeP l p) a b
  · rw [if_pos h]
    exact dist_le hD (hT.row a ha.1 ha.2) hb hb fun c w => w.mono fun x hx => (List.mem_filter.1 hx).1
  · rw [if_neg h]
    rcases arcF_val p l a b with e | ⟨x, hx, rfl, rfl, _, e⟩
    · rw [e]
      exact (hD.leFar hb.1 hb.2).2.1
    · rw [e]
      exact hD.least _ _ (Walk.one hx)
theorem overF_edge {l : List S33} {p : List Int} {T : List (List Int)} {a b : Int} (h : overF p l T a b < 99999) : edgeP l p a = true ∧ edgeP l p b = true := by
  unfold overF ovF at h
  by_cases h1 : Over p (edgeP l p) a b
  · exact ⟨h1.2.2.1, h1.2.2.2⟩
  · rw [if_neg h1] at h
    rcases arcF_val p l a b with e | ⟨x, hx, rfl, rfl, h2, e⟩
    · rw [e] at h
      omega
    · exact ⟨List.any_eq_true.2 ⟨x, hx, by simp [edgeB, h2]⟩, List.any_eq_true.2 ⟨x, hx, by simp [edgeB, h2]⟩⟩
theorem overF_arc {l : List S33} {p : List Int} {T : List (List Int)} {x : S33} (hx : x ∈ l) (h : rd p x.f0 ≠ rd p x.f1) : overF p l T x.f0 x.f1 ≤ x.f2 := by
  unfold overF ovF
  rw [if_neg fun h1 => h h1.2.1]
  exact arcF_le p l far2 x hx h
theorem impl_over_bad {n : Int} {l : List S33} {p : List Int} (h : ¬ partOkB n l p = true) : Ev (fun k => impl_PartOver.f k n l p) [] := by
  refine Ev.of fun k => ?_
  unfold impl_PartOver.f
  rw [partOk_val, Option.bind_some, if_neg h]
theorem spec_over_bad {n : Int} {l : List S33} {p : List Int} (hl : l.length ≤ 1048576) (hp : p.length ≤ 1048576) (h : ¬ partOkB n l p = true) : Ev (fun k => spec_PartOver.f k n l p) [] := by
  unfold spec_PartOver.f
  refine Ev.bind (l1Ok_netOkB n l (by omega)) ?_
  by_cases h1 : netOkB n l = true
  · refine Ev.pos h1 (Ev.bind (l10Parts_ev n l p (by omega)) ?_)
    refine Ev.neg (fun h2 => h ?_) (Ev.ret _)
    unfold partOkB
    rw [h1, h2]
    rfl
  · exact Ev.neg h1 (Ev.ret _)
theorem over_ok {n : Int} {l : List S33} {p : List Int} (h : partOkB n l p = true) : ∃ T, Tab n.toNat (inArcs p l) T ∧ Ev (fun k => impl_PartOver.f k n l p) (mat n.toNat (overF p l T)) ∧ Ev (fun k => spec_PartOver.f k n l p) (mat n.toNat (overF p l T)) := by
  obtain ⟨T, h1, h2, h3, h4⟩ := over_both h
  have hn := part_nodes h
  have hk : netOkB n l = true ∧ partsB n p = true := by simpa [partOkB] using h
  refine ⟨T, h1, ?_, ?_⟩
  · refine Ev.congr (G := fun k => (impl_Net_overlay.f k n l p).bind fun t => some t) (fun k => ?_) (Ev.bind h3 (Ev.ret _))
    unfold impl_PartOver.f
    rw [partOk_val, Option.bind_some, if_pos h]
  · unfold spec_PartOver.f
    have a := l1Ok_netOkB n l (by omega)
    have b := l10Parts_ev n l p (by omega)
    rw [hk.1] at a
    rw [hk.2] at b
    exact Ev.bind a (Ev.pos rfl (Ev.bind b (Ev.pos rfl (Ev.bind h4 (Ev.ret _)))))
theorem FnPartOver : laws_FnPartOver.Pure := by
  intro c _ hl hw
  by_cases hC : (c.length : Int) > 1048576
  · exact ⟨0, by unfold laws_FnPartOver.f; rw [if_pos hC]⟩
  apply Ev.get
  unfold laws_FnPartOver.f
  refine Ev.neg hC ?_
  obtain ⟨n, l, p, hd0, l0, p0⟩ := drawPartEdges_ev (by omega) hw
  have hd : Ev (fun k => spec_DrawPartOver.f k c) (n, l, p) := Ev.bind hd0 (Ev.ret _)
  by_cases h : partOkB n l p = true
  rotate_left
  · have hi := impl_over_bad h
    have hs := spec_over_bad (by omega) (by omega) h
    have hk := wkGrid_self [] (by simp) (by simp)
    refine Ev.bind hd (Ev.bind hi (Ev.bind hs (Ev.bind hk (Ev.pos rfl ?_))))
    exact Ev.step (fun k => by simp only [laws_FnPartOver.j0]; rfl) (Ev.pos (by first | rfl | trivial | simp) (Ev.bind hs (Ev.bind hk (Ev.ret _))))
  · obtain ⟨T, hT, hi, hs⟩ := over_ok h
    have hn := part_nodes h
    have hin := part_arcs h
    have hno : netOkB n l = true := by unfold partOkB at h; simp only [Bool.and_eq_true] at h; exact h.1
    have hl2 : (mat n.toNat (overF p l T)).length = n.toNat := mat_len _ _
    have hk := wkGrid_self (mat n.toNat (overF p l T)) (by omega) (fun r hr => by
      unfold mat at hr
      obtain ⟨i, _, rfl⟩ := List.mem_map.1 hr
      rw [rowF_len]; omega)
    refine Ev.bind hd (Ev.bind hi (Ev.bind hs (Ev.bind hk (Ev.pos rfl ?_))))
    have hz : (((mat n.toNat (overF p l T)).length : Int) == 0) = false := by
      rw [hl2]
      simp
      omega
    simp only
    rw [hz]
    have hrd : ∀ a b : Int, 0 ≤ a → a < n → 0 ≤ b → b < n → rd (rd_L5 (mat n.toNat (overF p l T)) a) b = overF p l T a b := fun a b a0 a1 b0 b1 => rd_mat2 _ a0 (by omega) b0 (by omega)
    have hrl : ∀ a : Int, 0 ≤ a → a < n → (rd_L5 (mat n.toNat (overF p l T)) a).length = n.toNat := fun a a0 a1 => mat_row_len _ a0 (by omega)
    generalize mat n.toNat (overF p l T) = G at hl2 hrd hrl hi hs hk ⊢
    have hpe : Ev (fun k => impl_PartEdges.f n l p) (edgesOf l p n.toNat) := Ev.of (fun _ => by rw [impl_partEdges_val]; exact congrArg some (if_pos h))
    refine Ev.step (fun k => by simp only [laws_FnPartOver.j0]; rfl) (Ev.neg (by simp) (Ev.bind hpe ?_))
    have hel := edgesOf_len l p n.toNat
    have hmem : ∀ v : Int, 0 ≤ v → v < n → edgeP l p v = true → v ∈ edgesOf l p n.toNat := fun v v0 v1 hv => (mem_edgesOf l p v n.toNat).2 ⟨v0, by omega, hv⟩
    generalize edgesOf l p n.toNat = es at hel hmem ⊢
    have hlast : Ev (fun k => laws_FnPartOver.l2 k p G 0 n l) true := by
      refine downto (P := fun i => Ev (fun k => laws_FnPartOver.l2 k p G (i : Int) n l) true) (n := l.length) ?_ ?_
      · exact Ev.step (fun k => by simp only [laws_FnPartOver.l2]; rw [if_neg (by omega)]) (Ev.ret _)
      · intro i hi2 hnext
        obtain ⟨⟨a0, a1⟩, b0, b1⟩ := hin l[i] (List.getElem_mem hi2)
        refine Ev.step (fun k => by simp only [laws_FnPartOver.l2]; rw [if_pos (by omega), if_pos (by omega), rd_T33_at l i hi2, if_pos a0, if_pos a1, if_pos b0, if_pos b1, w64s (by omega)]) ?_
        by_cases hb : rd p l[i].f0 = rd p l[i].f1
        · exact Ev.pos hb hnext
        · refine Ev.neg hb (Ev.pos (by omega) (Ev.pos (by rw [hrl _ a0 (by omega)]; omega) (Ev.neg ?_ hnext)))
          rw [hrd _ _ a0 (by omega) b0 (by omega)]
          have := overF_arc (T := T) (List.getElem_mem hi2) hb
          omega
    refine downto (P := fun i => Ev (fun k => laws_FnPartOver.l0 k p G es (i : Int) n l) true) (n := n.toNat) ?_ ?_
    · exact Ev.step (fun k => by simp only [laws_FnPartOver.l0]; rw [if_neg (by omega)]) hlast
    · intro i hi2 hnext
      obtain ⟨D, d1, d2, d3⟩ := from_dist hno (s := (i : Int)) ⟨by omega, by omega⟩
      refine Ev.step (fun k => by simp only [laws_FnPartOver.l0]; rw [if_pos (by omega)]) ?_
      refine Ev.bind (nearAll_ev hno ((inB_iff hn.1).2 ⟨by omega, by omega⟩) d1) ?_
      refine downto (P := fun j => Ev (fun k => laws_FnPartOver.l1 k p G es (i : Int) D (j : Int) n l) true) (n := n.toNat) ?_ ?_
      · refine Ev.step (fun k => by simp only [laws_FnPartOver.l1]; rw [if_neg (by omega), w64s (by omega)]) hnext
      · intro j hj hnext2
        have hge := overF_ge hT (a := (i : Int)) ⟨by omega, by omega⟩ d3 (b := (j : Int)) ⟨by omega, by omega⟩
        refine Ev.step (G := fun k => if overF p l T (i : Int) (j : Int) < 99999 then ((laws_wkIn.f k es (i : Int)).bind fun t131 => (if t131 = true then ((laws_wkIn.f k es (j : Int)).bind fun t132 => (if t132 = true then (laws_FnPartOver.l1 k p G es (i : Int) D ((j + 1 : Nat) : Int) n l) else (some false))) else (some false))) else (laws_FnPartOver.l1 k p G es (i : Int) D ((j + 1 : Nat) : Int) n l)) (fun k => ?_) ?_
        · simp only [laws_FnPartOver.l1]
          rw [if_pos (by omega), if_pos (by omega), if_pos (by omega), if_pos (by omega), if_pos (by rw [hrl _ (by omega) (by omega)]; omega), if_pos (by rw [d3.len]; omega), hrd _ _ (by omega) (by omega) (by omega) (by omega), if_neg (by omega), w64s (by omega)]
        · by_cases hf : overF p l T (i : Int) (j : Int) < 99999
          · obtain ⟨e1, e2⟩ := overF_edge hf
            exact Ev.pos hf (Ev.bind (wkInP_ev es _ (by omega) (hmem _ (by omega) (by omega) e1)) (Ev.pos rfl (Ev.bind (wkInP_ev es _ (by omega) (hmem _ (by omega) (by omega) e2)) (Ev.pos rfl hnext2))))
          · exact Ev.neg hf hnext2
end Go.Proofs.Ytblpdfgplifccaa.Pure
