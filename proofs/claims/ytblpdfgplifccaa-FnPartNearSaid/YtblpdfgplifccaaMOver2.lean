/- The reference's table over edge nodes, and both together. -/
import Derived.Test.YtblpdfgplifccaaMOver
set_option linter.unusedVariables false
namespace Go.Proofs.Ytblpdfgplifccaa.M
open Go.RowKit Go.Proofs.Ytblpdfgplifccaa.P Go.Proofs.YtblpdfgplifccaaV.PrintWords Go.Proofs.YtblpdfgplifccaaV.PrintMore
def inQ (p : List Int) (q : Int) (x : S33) : Bool := rd p x.f0 == q && rd p x.f1 == q
def inArcs (p : List Int) (l : List S33) : List S33 := l.filter fun x => !cutB p x
theorem netOk_filter {n : Int} {l : List S33} (h : netOkB n l = true) (f : S33 → Bool) : netOkB n (l.filter f) = true := by
  unfold netOkB at h ⊢
  simp only [Bool.and_eq_true, decide_eq_true_eq, Bool.not_eq_true', List.any_eq_false] at h ⊢
  refine ⟨⟨h.1.1, ?_⟩, fun x hx => h.2 x (List.mem_filter.1 hx).1⟩
  have := List.length_filter_le f l
  have := h.1.2
  omega
theorem l10In_ev {n q : Int} {l : List S33} {p : List Int} (hin : arcsIn p.length l) (hl : l.length ≤ 16) : Ev (fun k => spec_l10In.f k n l p q) (n, l.filter (inQ p q)) := by
  show Ev (fun k => spec_l10In.l0 k p q 0 n l n []) _
  refine downto (P := fun i => Ev (fun k => spec_l10In.l0 k p q (i : Int) n l n ((l.take i).filter (inQ p q))) (n, l.filter (inQ p q))) (n := l.length) ?_ ?_
  · refine Ev.step (fun k => by simp only [spec_l10In.l0]; rw [if_neg (by omega)]) ((Ev.ret _).eq ?_)
    rw [List.take_length]
  · intro i hi h
    obtain ⟨⟨a0, a1⟩, b0, b1⟩ := hin l[i] (List.getElem_mem hi)
    rw [List.take_succ_eq_append_getElem hi, List.filter_append] at h
    have hlen : ((l.take i).filter (inQ p q)).length ≤ 16 := by
      have := List.length_filter_le (inQ p q) (l.take i)
      rw [List.length_take] at this
      omega
    refine Ev.step (fun k => ?_) h
    simp only [spec_l10In.l0]
    rw [if_pos (by omega), if_pos (by omega), rd_T33_at l i hi, if_pos a0, if_pos a1, w64s (by omega)]
    by_cases h0 : rd p l[i].f0 = q
    · rw [if_pos h0, if_pos b0, if_pos b1]
      by_cases h1 : rd p l[i].f1 = q
      · rw [if_pos h1, if_pos (by omega)]
        have : inQ p q l[i] = true := by simp [inQ, h0, h1]
        simp [this]
      · rw [if_neg h1]
        have : inQ p q l[i] = false := by simp [inQ, h0, h1]
        simp [this]
    · rw [if_neg h0]
      have : inQ p q l[i] = false := by simp [inQ, h0]
      simp [this]
/-- from a node, inside its part and inside all parts come to the same -/
theorem walk_inn {p : List Int} {l : List S33} {i : Int} : ∀ {k : Nat} {y c : Int}, WalkN (inArcs p l) i k y c → rd p y = rd p i ∧ WalkN (l.filter (inQ p (rd p i))) i k y c := by
  intro k y c w
  induction w with
  | nil => exact ⟨rfl, .nil⟩
  | snoc w h ih =>
    rename_i a k c
    have h2 := List.mem_filter.1 h
    have h3 : rd p a.f0 = rd p a.f1 := by simpa [cutB] using h2.2
    exact ⟨h3.symm.trans ih.1, ih.2.snoc (List.mem_filter.2 ⟨h2.1, by simp [inQ, ← h3, ih.1]⟩)⟩
theorem in_walk {p : List Int} {l : List S33} {q i : Int} {k : Nat} {y c : Int} (w : WalkN (l.filter (inQ p q)) i k y c) : WalkN (inArcs p l) i k y c := by
  induction w with
  | nil => exact .nil
  | snoc w h ih =>
    rename_i a k c
    have h2 := List.mem_filter.1 h
    have h3 : rd p a.f0 = q ∧ rd p a.f1 = q := by simpa [inQ] using h2.2
    exact ih.snoc (List.mem_filter.2 ⟨h2.1, by simp [cutB, h3.1, h3.2]⟩)
theorem in_dist {n : Nat} {p : List Int} {l : List S33} {i : Int} {D E : List Int} (hD : IsDist n (inArcs p l) i D) (hE : IsDist n (l.filter (inQ p (rd p i))) i E) : E = D :=
  dist_uniq hE hD fun y c => ⟨fun ⟨k, w⟩ => ⟨k, (walk_inn w).2⟩, fun ⟨k, w⟩ => ⟨k, in_walk w⟩⟩
theorem all_dist {nodes i : Int} {l : List S33} (h : netOkB nodes l = true) (hi : 0 ≤ i ∧ i < nodes) : ∃ D, Ev (fun k => spec_l3All.f k nodes l i) D ∧ IsDist nodes.toNat l i D := by
  obtain ⟨D, _, h2, h3⟩ := from_dist h hi
  exact ⟨D, h2, h3⟩
/-- the reference's row of a part -/
theorem in_all_ev {n i : Int} {l : List S33} {p : List Int} (h : partOkB n l p = true) (hi : 0 ≤ i ∧ i < n) {D : List Int} (hD : IsDist n.toNat (inArcs p l) i D) : Ev (fun k => spec_l10In.f k n l p (rd p i)) (n, l.filter (inQ p (rd p i))) ∧ Ev (fun k => spec_l3All.f k n (l.filter (inQ p (rd p i))) i) D := by
  have hn := part_nodes h
  have hk : netOkB n l = true := by unfold partOkB at h; simp only [Bool.and_eq_true] at h; exact h.1
  refine ⟨l10In_ev (part_arcs h) hn.2.1, ?_⟩
  obtain ⟨E, e1, e2⟩ := all_dist (netOk_filter hk (inQ p (rd p i))) hi
  rw [← in_dist hD e2]
  exact e1
def edgeP (l : List S33) (p : List Int) : Int → Bool := fun v => l.any (edgeB p v)
def tabF (T : List (List Int)) : Int → Int → Int := fun a b => rd (rd_L5 T a) b
def overF (p : List Int) (l : List S33) (T : List (List Int)) : Int → Int → Int := ovF p (edgeP l p) (tabF T) (arcF p l)
theorem specRow_ev {n : Int} {l : List S33} {p : List Int} (h : partOkB n l p = true) {T : List (List Int)} (hT : Tab n.toNat (inArcs p l) T) {i : Int} (hi : 0 ≤ i ∧ i < n) {R : List (List Int)}
    (hR : ∀ G, Put n.toNat (fun a b => a < i + 1 ∧ Over p (edgeP l p) a b) (tabF T) (arcF p l) G → Ev (fun k => spec_l10Over.l1 k p (mat n.toNat G) (wrap64 (i + 1)) n l) R) :
    ∀ G, Put n.toNat (fun a b => a < i ∧ Over p (edgeP l p) a b) (tabF T) (arcF p l) G → Ev (fun k => spec_l10Over.l2 k p (mat n.toNat G) i (rd_L5 T i) 0 n l) R := by
  have hn := part_nodes h
  have hin := part_arcs h
  have hlen : (rd_L5 T i).length = n.toNat := (hT.row i hi.1 (by omega)).len
  suffices H : ∀ G, Put n.toNat (fun a b => (a < i ∨ (a = i ∧ b < ((0 : Nat) : Int))) ∧ Over p (edgeP l p) a b) (tabF T) (arcF p l) G → Ev (fun k => spec_l10Over.l2 k p (mat n.toNat G) i (rd_L5 T i) ((0 : Nat) : Int) n l) R by
    intro G hG
    exact H G (hG.iff fun a b a0 a1 b0 b1 => by
      have : ¬ b < ((0 : Nat) : Int) := by omega
      simp only [this, and_false, or_false])
  refine downto (P := fun j => ∀ G, Put n.toNat (fun a b => (a < i ∨ (a = i ∧ b < (j : Int))) ∧ Over p (edgeP l p) a b) (tabF T) (arcF p l) G → Ev (fun k => spec_l10Over.l2 k p (mat n.toNat G) i (rd_L5 T i) (j : Int) n l) R) (n := n.toNat) ?_ ?_
  · intro G hG
    refine Ev.step (fun k => by simp only [spec_l10Over.l2]; rw [if_neg (by omega)]) (hR G (hG.iff fun a b a0 a1 b0 b1 => ?_))
    have : a < i + 1 ↔ (a < i ∨ (a = i ∧ b < ((n.toNat : Nat) : Int))) := by omega
    rw [this]
  · intro j hj hnext G hG
    have same : ¬ Over p (edgeP l p) i (j : Int) → Ev (fun k => spec_l10Over.l2 k p (mat n.toNat G) i (rd_L5 T i) ((j + 1 : Nat) : Int) n l) R := fun hno => hnext G (hG.iff fun a b a0 a1 b0 b1 => by
      constructor
      · rintro ⟨h1, h2⟩
        refine ⟨?_, h2⟩
        rcases h1 with h1 | ⟨h1, h3⟩
        · exact .inl h1
        · by_cases e : b = (j : Int)
          · exact absurd (h1 ▸ e ▸ h2) hno
          · exact .inr ⟨h1, by omega⟩
      · rintro ⟨h1, h2⟩
        refine ⟨?_, h2⟩
        rcases h1 with h1 | ⟨h1, h3⟩
        · exact .inl h1
        · exact .inr ⟨h1, by omega⟩)
    by_cases e1 : i = (j : Int)
    · refine Ev.step (fun k => by simp only [spec_l10Over.l2]; rw [if_pos (by omega), if_pos e1, w64s (by omega)]) (same fun ho => ho.1 e1)
    · by_cases e2 : rd p i = rd p (j : Int)
      · refine Ev.step (fun k => by simp only [spec_l10Over.l2]; rw [if_pos (by omega), if_neg e1, if_pos hi.1, if_pos (by omega), if_pos (by omega), if_pos (by omega), if_pos e2, w64s (by omega)]) ?_
        have k1 := l10Edge_ev n i l p hin (by omega)
        have k2 := l10Edge_ev n (j : Int) l p hin (by omega)
        refine Ev.bind k1 ?_
        by_cases e3 : l.any (edgeB p i) = true
        · rw [e3]
          refine Ev.pos rfl (Ev.bind k2 ?_)
          by_cases e4 : l.any (edgeB p (j : Int)) = true
          · rw [e4]
            have ho : Over p (edgeP l p) i (j : Int) := ⟨e1, e2, e3, e4⟩
            have hg : G i (j : Int) = 99999 := by
              rw [(hG i (j : Int) hi.1 (by omega) (by omega) (by omega)).2 (by rintro ⟨h1, _⟩; omega)]
              rcases arcF_val p l i (j : Int) with h1 | ⟨x, _, h1, h2, h3, _⟩
              · exact h1
              · exact absurd e2 h3
            refine Ev.pos rfl (Ev.pos (by omega) ?_)
            refine Ev.congr (G := fun k => if rd (rd_L5 T i) (j : Int) < 99999 then spec_l10Over.l2 k p (mat n.toNat (upd G i (j : Int) (rd (rd_L5 T i) (j : Int)))) i (rd_L5 T i) ((j + 1 : Nat) : Int) n l else spec_l10Over.l2 k p (mat n.toNat G) i (rd_L5 T i) ((j + 1 : Nat) : Int) n l) (fun k => ?_) ?_
            · rw [mat_len, mat_row_len G hi.1 (by omega), if_pos (by omega), if_pos (by omega), rd_mat2 G hi.1 (by omega) (by omega) (by omega), hg, mat_put G hi.1 (by omega) (by omega)]
            have hadd : ∀ a b : Int, ((a < i ∨ (a = i ∧ b < ((j + 1 : Nat) : Int))) ∧ Over p (edgeP l p) a b) ↔ (((a < i ∨ (a = i ∧ b < (j : Int))) ∧ Over p (edgeP l p) a b) ∨ (a = i ∧ b = (j : Int))) := by
              intro a b
              constructor
              · rintro ⟨h1, h2⟩
                rcases h1 with h1 | ⟨h1, h3⟩
                · exact .inl ⟨.inl h1, h2⟩
                · by_cases e : b = (j : Int)
                  · exact .inr ⟨h1, e⟩
                  · exact .inl ⟨.inr ⟨h1, by omega⟩, h2⟩
              · rintro (⟨h1, h2⟩ | ⟨h1, h2⟩)
                · refine ⟨?_, h2⟩
                  rcases h1 with h1 | ⟨h1, h3⟩
                  · exact .inl h1
                  · exact .inr ⟨h1, by omega⟩
                · exact ⟨.inr ⟨h1, by omega⟩, by rw [h1, h2]; exact ho⟩
            by_cases e5 : rd (rd_L5 T i) (j : Int) < 99999
            · exact Ev.pos e5 (hnext _ ((hG.add i (j : Int)).iff fun a b _ _ _ _ => hadd a b))
            · refine Ev.neg e5 (hnext G ?_)
              have hle := (hT.at (i := i) (j := (j : Int)) ⟨hi.1, by omega⟩ ⟨by omega, by omega⟩).2.2
              intro a b a0 a1 b0 b1
              have := hG a b a0 a1 b0 b1
              dsimp only at this ⊢
              rw [hadd a b]
              constructor
              · rintro (h1 | ⟨h1, h2⟩)
                · exact this.1 h1
                · rw [h1, h2, hg]
                  show 99999 = rd (rd_L5 T i) (j : Int)
                  omega
              · exact fun h1 => this.2 fun h2 => h1 (.inl h2)
          · rw [Bool.eq_false_iff.2 e4]
            exact Ev.neg (by simp) (same fun ho => e4 ho.2.2.2)
        · rw [Bool.eq_false_iff.2 e3]
          exact Ev.neg (by simp) (same fun ho => e3 ho.2.2.1)
      · refine Ev.step (fun k => by simp only [spec_l10Over.l2]; rw [if_pos (by omega), if_neg e1, if_pos hi.1, if_pos (by omega), if_pos (by omega), if_pos (by omega), if_neg e2, w64s (by omega)]) (same fun ho => e2 ho.2.1)
theorem specRows_ev {n : Int} {l : List S33} {p : List Int} (h : partOkB n l p = true) {T : List (List Int)} (hT : Tab n.toNat (inArcs p l) T) : Ev (fun k => spec_l10Over.l1 k p (mat n.toNat (arcF p l)) 0 n l) (mat n.toNat (overF p l T)) := by
  have hn := part_nodes h
  have H : ∀ G, Put n.toNat (fun a b => a < ((0 : Nat) : Int) ∧ Over p (edgeP l p) a b) (tabF T) (arcF p l) G → Ev (fun k => spec_l10Over.l1 k p (mat n.toNat G) ((0 : Nat) : Int) n l) (mat n.toNat (overF p l T)) := by
    refine downto (P := fun i => ∀ G, Put n.toNat (fun a b => a < (i : Int) ∧ Over p (edgeP l p) a b) (tabF T) (arcF p l) G → Ev (fun k => spec_l10Over.l1 k p (mat n.toNat G) (i : Int) n l) (mat n.toNat (overF p l T))) (n := n.toNat) ?_ ?_
    · intro G hG
      refine Ev.step (fun k => by simp only [spec_l10Over.l1]; rw [if_neg (by omega)]) ((Ev.ret _).eq ?_)
      exact (hG.iff fun a b a0 a1 b0 b1 => by
        have : a < ((n.toNat : Nat) : Int) := a1
        simp only [this, true_and]).end_
    · intro i hi hnext G hG
      obtain ⟨k1, k2⟩ := in_all_ev h (i := (i : Int)) ⟨by omega, by omega⟩ (hT.row (i : Int) (by omega) (by omega))
      refine Ev.step (fun k => by simp only [spec_l10Over.l1]; rw [if_pos (by omega), if_pos (by omega), if_pos (by omega)]) (Ev.bind k1 (Ev.bind k2 ?_))
      refine specRow_ev h hT (i := (i : Int)) ⟨by omega, by omega⟩ (fun G' hG' => ?_) G hG
      rw [w64s (by omega)]
      exact hnext G' (hG'.iff fun a b _ _ _ _ => by
        have : a < ((i + 1 : Nat) : Int) ↔ a < (i : Int) + 1 := by omega
        rw [this])
  exact H _ fun a b a0 a1 b0 b1 => ⟨fun h1 => absurd h1.1 (by omega), fun _ => rfl⟩
theorem over_both {n : Int} {l : List S33} {p : List Int} (h : partOkB n l p = true) : ∃ T, Tab n.toNat (inArcs p l) T ∧ Ev (fun k => impl_Net_table.f k n (inArcs p l)) T ∧ Ev (fun k => impl_Net_overlay.f k n l p) (mat n.toNat (overF p l T)) ∧ Ev (fun k => spec_l10Over.f k n l p) (mat n.toNat (overF p l T)) := by
  have hn := part_nodes h
  have hin := part_arcs h
  have hk : netOkB n l = true := by unfold partOkB at h; simp only [Bool.and_eq_true] at h; exact h.1
  obtain ⟨T, e1, e2, e3⟩ := tab_ev (netOk_filter hk fun x => !cutB p x)
  have hin2 : arcsIn n.toNat l := by
    intro x hx
    have := hin x hx
    omega
  have hpl : p.length = n.toNat := by omega
  refine ⟨T, e2, e1, ?_, ?_⟩
  · unfold impl_Net_overlay.f
    refine Ev.pos (by omega) (Ev.bind (impl_grid_ev (by omega) hn.1.2) ?_)
    rw [ovArcs_mat hpl hin2]
    refine Ev.congr (G := fun k => (impl_Net_table.f k n (inArcs p l)).bind fun W => if (edgesOf l p n.toNat).length ≤ 1000000000 then ovAll p W (edgesOf l p n.toNat) (mat n.toNat (arcF p l)) (edgesOf l p n.toNat).length else none) (fun k => ?_) ?_
    · rw [Option.bind_some]
      unfold impl_Net_inside.f impl_Net_edges.f
      rw [if_pos ⟨hin, by omega⟩, Option.bind_some, if_pos ⟨by omega, hin⟩]
      rfl
    · refine Ev.bind e1 (Ev.pos (by have := edgesOf_len l p n.toNat; omega) ?_)
      rw [ovAll_mat hpl e2.len (fun i i0 i1 => (e2.row i i0 i1).len)]
      exact Ev.ret _
  · unfold spec_l10Over.f
    refine Ev.bind (spec_grid_ev (by omega) hn.1.2) ?_
    exact specArcs_ev hpl hn.2.1 hin2 (specRows_ev h e2)
end Go.Proofs.Ytblpdfgplifccaa.M
