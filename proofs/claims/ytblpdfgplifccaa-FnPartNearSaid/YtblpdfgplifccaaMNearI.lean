/- The program's answer of a way over edge nodes. -/
import Derived.Test.YtblpdfgplifccaaMNearA
import Derived.Test.YtblpdfgplifccaaPFImplPartnear
set_option linter.unusedVariables false
namespace Go.Proofs.Ytblpdfgplifccaa.M
open Go.RowKit Go.Proofs.Ytblpdfgplifccaa.P Go.Proofs.YtblpdfgplifccaaV.PrintWords Go.Proofs.YtblpdfgplifccaaV.PrintMore
section
variable {n : Nat} {l : List S33} {p : List Int} {D T : List (List Int)}
theorem impl_near_l1 {C : Int → Int → Int} (hn : n ≤ 8) (h : Parts n l p D T) (hC : Clo n l p D T C) {f t : Int} (hf : 0 ≤ f ∧ f < n) (ht : 0 ≤ t ∧ t < n) {es : List Int} (hes : ∀ v ∈ es, 0 ≤ v ∧ v < n) (hel : es.length ≤ 8) {a : Int} (ha : 0 ≤ a ∧ a < n) {i : Int} {nodes : Int} {R : Int} {m : Int}
    (hR : ∀ b : Int, tabF D f t ≤ b → b ≤ m → (∀ c ∈ es, b ≤ tabF T f a + C a c + tabF T c t) → Ev (fun k => impl_PartNear.l0 k p f t T (mat n C) b es es.length (wrap64 (i + 1)) nodes l) R) (b : Int) (b0 : tabF D f t ≤ b) (b1 : b ≤ 99999) (b2 : b ≤ m) :
    Ev (fun k => impl_PartNear.l1 k p f t T (mat n C) b a es es.length i es es.length 0 nodes l) R := by
  have H := downto (P := fun j => ∀ b : Int, tabF D f t ≤ b → b ≤ 99999 → b ≤ m → (∀ c ∈ es.take j, b ≤ tabF T f a + C a c + tabF T c t) → Ev (fun k => impl_PartNear.l1 k p f t T (mat n C) b a es es.length i es es.length (j : Int) nodes l) R) (n := es.length) ?_ ?_
  · exact H b b0 b1 b2 (by simp)
  · intro b b0 b1 b2 hb
    rw [List.take_length] at hb
    exact Ev.step (fun k => by simp only [impl_PartNear.l1]; rw [if_neg (by omega)]) (hR b b0 b2 hb)
  · intro j hj hnext b b0 b1 b2 hb
    obtain ⟨c0, c1⟩ := hes es[j] (List.getElem_mem hj)
    have hadd : ∀ b' : Int, b' ≤ b → b' ≤ tabF T f a + C a es[j] + tabF T es[j] t → ∀ c ∈ es.take (j + 1), b' ≤ tabF T f a + C a c + tabF T c t := fun b' h1 h2 c hc => by
      rw [List.take_succ_eq_append_getElem hj, List.mem_append, List.mem_singleton] at hc
      rcases hc with hc | rfl
      · exact Int.le_trans h1 (hb c hc)
      · exact h2
    have w1 := h.t.at hf ha
    have w2 := h.t.at ⟨c0, c1⟩ ht
    have w3 := hC.cap.nn a es[j] ha.1 ha.2 c0 c1
    have w4 := hC.cap.hi a es[j] ha.1 ha.2 c0 c1
    have r1 := (h.t.row f hf.1 hf.2).len
    have r2 := (h.t.row es[j] c0 c1).len
    have hskip : 99999 ≤ tabF T f a + C a es[j] + tabF T es[j] t → Ev (fun k => impl_PartNear.l1 k p f t T (mat n C) b a es es.length i es es.length ((j + 1 : Nat) : Int) nodes l) R := fun h1 => hnext b b0 b1 b2 (hadd b (Int.le_refl _) (by omega))
    have hw := w64s (n := j) (by omega)
    have hT := h.t.len
    unfold tabF at hskip
    have g1 : (j : Int) < (es.length : Int) := Int.ofNat_lt.2 hj
    have g0 : 0 ≤ (j : Int) := Int.natCast_nonneg j
    have gf : f < (T.length : Int) := by rw [hT]; exact hf.2
    have ga : a < ((rd_L5 T f).length : Int) := by rw [r1]; exact ha.2
    have gc : es[j] < (T.length : Int) := by rw [hT]; exact c1
    have gt : t < ((rd_L5 T es[j]).length : Int) := by rw [r2]; exact ht.2
    by_cases e1 : rd (rd_L5 T f) a = 99999
    · refine Ev.step (fun k => ?_) (hskip (by omega))
      simp only [impl_PartNear.l1]
      rw [if_pos g1, if_pos g0, if_pos g1, if_pos hf.1, if_pos gf, if_pos ha.1, if_pos ga, if_pos e1, hw]
    · by_cases e2 : C a es[j] = 99999
      · refine Ev.step (fun k => ?_) (hskip (by omega))
        simp only [impl_PartNear.l1]
        rw [if_pos g1, if_pos g0, if_pos g1, if_pos hf.1, if_pos gf, if_pos ha.1, if_pos ga, if_neg e1, rd_at0 es j hj, mat_len, if_pos ha.2, if_pos c0, mat_row_len C ha.1 ha.2, if_pos c1, rd_mat2 C ha.1 ha.2 c0 c1, if_pos e2, hw]
      · by_cases e3 : rd (rd_L5 T es[j]) t = 99999
        · refine Ev.step (fun k => ?_) (hskip (by omega))
          simp only [impl_PartNear.l1]
          rw [if_pos g1, if_pos g0, if_pos g1, if_pos hf.1, if_pos gf, if_pos ha.1, if_pos ga, if_neg e1, rd_at0 es j hj, mat_len, if_pos ha.2, if_pos c0, mat_row_len C ha.1 ha.2, if_pos c1, rd_mat2 C ha.1 ha.2 c0 c1, if_neg e2, if_pos gc, if_pos ht.1, if_pos gt, if_pos e3, hw]
        · have hlow : tabF D f t ≤ tabF T f a + C a es[j] + tabF T es[j] t := by
            have t1 := h.d.tri f a t hf.1 hf.2 ha.1 ha.2 ht.1 ht.2
            have t2 := h.d.tri a es[j] t ha.1 ha.2 c0 c1 ht.1 ht.2
            have t3 := h.in_le hf.1 hf.2 ha.1 ha.2
            have t4 := h.in_le c0 c1 ht.1 ht.2
            have t5 := hC.cap.lo a es[j] ha.1 ha.2 c0 c1
            omega
          have hnext2 := hnext (mn b (tabF T f a + C a es[j] + tabF T es[j] t)) (by rcases mn_cases b (tabF T f a + C a es[j] + tabF T es[j] t) with e | e <;> omega) (Int.le_trans mn_le.1 b1) (Int.le_trans mn_le.1 b2) (hadd _ mn_le.1 mn_le.2)
          refine Ev.step (fun k => ?_) hnext2
          unfold tabF
          simp only [impl_PartNear.l1]
          rw [if_pos g1, if_pos g0, if_pos g1, if_pos hf.1, if_pos gf, if_pos ha.1, if_pos ga, if_neg e1, rd_at0 es j hj, mat_len, if_pos ha.2, if_pos c0, mat_row_len C ha.1 ha.2, if_pos c1, rd_mat2 C ha.1 ha.2 c0 c1, if_neg e2, if_pos gc, if_pos ht.1, if_pos gt, if_neg e3, hw, w64 (n := rd (rd_L5 T f) a + C a es[j]) (by omega), w64 (n := rd (rd_L5 T f) a + C a es[j] + rd (rd_L5 T es[j]) t) (by omega)]
theorem impl_near_l0 {C : Int → Int → Int} (hn : n ≤ 8) (h : Parts n l p D T) (hC : Clo n l p D T C) {f t : Int} (hf : 0 ≤ f ∧ f < n) (ht : 0 ≤ t ∧ t < n) {nodes : Int} (hnn : nodes = n) (hin : arcsIn p.length l) : Ev (fun k => impl_PartNear.l0 k p f t T (mat n C) (tabF T f t) (edgesOf l p n) (edgesOf l p n).length 0 nodes l) (tabF D f t) := by
  have hed : ∀ k : Nat, impl_Net_edges.f nodes l p = some (edgesOf l p n) := fun _ => by
    unfold impl_Net_edges.f
    rw [if_pos ⟨by omega, hin⟩, hnn]
    rfl
  have hes : ∀ v ∈ edgesOf l p n, 0 ≤ v ∧ v < n := fun v hv => ⟨((mem_edgesOf l p v n).1 hv).1, ((mem_edgesOf l p v n).1 hv).2.1⟩
  have hE : ∀ v : Int, 0 ≤ v → v < n → edgeP l p v = true → v ∈ edgesOf l p n := fun v v0 v1 h => (mem_edgesOf l p v n).2 ⟨v0, v1, h⟩
  have hel := edgesOf_len l p n
  generalize edgesOf l p n = es at hed hes hE hel ⊢
  have w0 := h.t.at hf ht
  have H := downto (P := fun i => ∀ b : Int, tabF D f t ≤ b → b ≤ tabF T f t → (∀ a ∈ es.take i, ∀ c ∈ es, b ≤ tabF T f a + C a c + tabF T c t) → Ev (fun k => impl_PartNear.l0 k p f t T (mat n C) b es es.length (i : Int) nodes l) (tabF D f t)) (n := es.length) ?_ ?_
  · exact H _ (h.in_le hf.1 hf.2 ht.1 ht.2) (Int.le_refl _) (by simp)
  · intro b b0 b1 hb
    rw [List.take_length] at hb
    have e : b = tabF D f t := by
      refine Int.le_antisymm ?_ b0
      have d0 := h.d.at hf ht
      by_cases e1 : rd (rd_L5 D f) t = 99999
      · show b ≤ rd (rd_L5 D f) t
        unfold tabF at b1
        omega
      · obtain ⟨k, w⟩ := (h.d.row f hf.1 hf.2).walk t ht.1 ht.2 e1
        rcases (walk_over h hC hf.1 hf.2 w).2 with h1 | ⟨a, c, ⟨a0, a1⟩, ⟨c0, c1⟩, ea, ec, h1⟩
        · exact Int.le_trans b1 h1
        · exact Int.le_trans (hb a (hE a a0 a1 ea) c (hE c c0 c1 ec)) h1
    rw [e]
    exact Ev.step (fun k => by simp only [impl_PartNear.l0]; rw [if_neg (by omega)]) (Ev.ret _)
  · intro i hi hnext b b0 b1 hb
    obtain ⟨a0, a1⟩ := hes es[i] (List.getElem_mem hi)
    refine Ev.step (G := fun k => impl_PartNear.l1 k p f t T (mat n C) b es[i] es es.length i es es.length 0 nodes l) (fun k => ?_) ?_
    · simp only [impl_PartNear.l0]
      rw [if_pos (by omega), if_pos (by omega), if_pos (by omega), hed k, Option.bind_some, rd_at0 es i hi]
    · refine impl_near_l1 (m := b) hn h hC hf ht hes (by omega) ⟨a0, a1⟩ (fun b' h0 h1 h2 => ?_) b b0 (by unfold tabF at b1; omega) (Int.le_refl _)
      rw [w64s (by omega)]
      refine hnext b' h0 (Int.le_trans h1 b1) fun a ha c hc => ?_
      rw [List.take_succ_eq_append_getElem hi, List.mem_append, List.mem_singleton] at ha
      rcases ha with ha | rfl
      · exact Int.le_trans h1 (hb a ha c hc)
      · exact h2 c hc
end
theorem impl_partNear_ok {n f t : Int} {l : List S33} {p : List Int} (h : partOkB n l p = true) (hf : inB n f = true) (ht : inB n t = true) {D : List (List Int)} (hD : Tab n.toNat l D) : Ev (fun k => impl_PartNear.f k n l p f t) (rd (rd_L5 D f) t) := by
  have hn := part_nodes h
  have hno : netOkB n l = true := by unfold partOkB at h; simp only [Bool.and_eq_true] at h; exact h.1
  obtain ⟨T, hT, e1, e2, e3⟩ := over_both h
  have hP : Parts n.toNat l p D T := ⟨hD, hT, netOk_good hno⟩
  have hf' := (inB_iff hn.1).1 hf
  have ht' := (inB_iff hn.1).1 ht
  have hrow := (hT.row f hf'.1 (by omega)).len
  refine Ev.congr (G := fun k => impl_PartNear.j0 k p f t false n l) (fun k => ?_) ?_
  · unfold impl_PartNear.f impl_Net_has.f
    rw [partOk_val, Option.bind_some, if_pos h, Option.bind_some]
    simp [hf, ht]
  · refine Ev.step (fun k => by simp only [impl_PartNear.j0]; rfl) (Ev.neg (by simp) ?_)
    have hi : Ev (fun k => impl_Net_inside.f n l p) (n, inArcs p l) := Ev.of fun _ => by
      unfold impl_Net_inside.f
      rw [if_pos ⟨part_arcs h, by omega⟩]
      rfl
    have he : Ev (fun k => impl_Net_edges.f n l p) (edgesOf l p n.toNat) := Ev.of fun _ => by
      unfold impl_Net_edges.f
      rw [if_pos ⟨by omega, part_arcs h⟩]
    have hc := closed_ev (n := n.toNat) (by omega) hD.tri hP.cap
    refine Ev.bind hi (Ev.bind e1 (Ev.bind e2 (Ev.bind hc (Ev.pos hf'.1 (Ev.pos (by rw [hT.len]; omega) (Ev.pos ht'.1 (Ev.pos (by rw [hrow]; omega) (Ev.bind he ?_))))))))
    exact impl_near_l0 (by omega) hP hP.clo ⟨hf'.1, by omega⟩ ⟨ht'.1, by omega⟩ (by omega) (part_arcs h)
end Go.Proofs.Ytblpdfgplifccaa.M
