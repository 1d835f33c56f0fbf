/- FnPartEdges is true of every code: of a drawn net and its parts, the boundary nodes are those of the arcs that are cut, ascending; of one part alone there is none. -/
import Derived.Test.YtblpdfgplifccaaPFLawsFnpartedges
import Derived.Test.YtblpdfgplifccaaMCut
import Derived.Test.YtblpdfgplifccaaMDrawP
import Derived.Test.YtblpdfgplifccaaMWk
set_option linter.unusedVariables false
namespace Go.Proofs.Ytblpdfgplifccaa.Pure
open Go.RowKit Go.Proofs.Ytblpdfgplifccaa.P Go.Proofs.Ytblpdfgplifccaa.M
open Go.Proofs.YtblpdfgplifccaaV.PrintWords (rd)
theorem wkIn_ev (xs : List Int) (v : Int) (hl : xs.length ≤ 1048576) (hv : v ∈ xs) : Ev (fun k => laws_wkIn.f k xs v) true := by
  show Ev (fun k => laws_wkIn.l0 k xs v 0) true
  have h := downto (P := fun i => v ∈ xs.drop i → Ev (fun k => laws_wkIn.l0 k xs v (i : Int)) true) (n := xs.length) ?_ ?_
  · exact h (by simpa using hv)
  · intro hm
    rw [List.drop_length] at hm
    cases hm
  · intro i hi hnext hm
    rw [List.drop_eq_getElem_cons hi, List.mem_cons] at hm
    by_cases e : xs[i] = v
    · refine Ev.step (fun k => ?_) (Ev.ret _)
      simp only [laws_wkIn.l0]
      rw [if_pos (by omega), if_pos (by omega), rd_at0 xs i hi, if_pos e]
    · refine Ev.step (fun k => ?_) (hnext (hm.resolve_left (fun h => e h.symm)))
      simp only [laws_wkIn.l0]
      rw [if_pos (by omega), if_pos (by omega), rd_at0 xs i hi, if_neg e, w64s (by omega)]
theorem mem_edgesOf {l : List S33} {p : List Int} {v : Int} : ∀ {n : Nat}, v ∈ edgesOf l p n ↔ (0 ≤ v ∧ v < n) ∧ l.any (edgeB p v) = true
  | 0 => by
    unfold edgesOf
    constructor
    · intro h; cases h
    · intro h; omega
  | n + 1 => by
    by_cases hb : l.any (edgeB p (n : Int)) = true
    · rw [edgesOf_hit hb, List.mem_append, mem_edgesOf, List.mem_singleton]
      constructor
      · rintro (h | rfl)
        · exact ⟨by omega, h.2⟩
        · exact ⟨by omega, hb⟩
      · intro h
        by_cases e : v = n
        · exact .inr e
        · exact .inl ⟨by omega, h.2⟩
    · rw [edgesOf_miss (Bool.eq_false_iff.2 hb), mem_edgesOf]
      constructor
      · intro h; exact ⟨by omega, h.2⟩
      · intro h
        refine ⟨⟨h.1.1, ?_⟩, h.2⟩
        by_cases e : v = n
        · subst e; exact absurd h.2 hb
        · omega
theorem edgesOf_asc {l : List S33} {p : List Int} : ∀ {n : Nat}, (edgesOf l p n).Pairwise (· < ·)
  | 0 => by unfold edgesOf; exact List.Pairwise.nil
  | n + 1 => by
    by_cases hb : l.any (edgeB p (n : Int)) = true
    · rw [edgesOf_hit hb]
      refine List.pairwise_append.2 ⟨edgesOf_asc, List.pairwise_singleton _ _, fun a ha b hb2 => ?_⟩
      have h1 := (mem_edgesOf.1 ha).1
      have h2 := List.mem_singleton.1 hb2
      omega
    · rw [edgesOf_miss (Bool.eq_false_iff.2 hb)]
      exact edgesOf_asc
theorem rd_zeros (m : Nat) (v : Int) : rd (List.replicate m 0) v = 0 := by
  simp only [rd, List.getD_eq_getElem?_getD, List.getElem?_replicate]
  split <;> rfl
theorem edges_zero (l : List S33) (m : Nat) : ∀ n, edgesOf l (List.replicate m 0) n = []
  | 0 => rfl
  | n + 1 => by
    rw [edgesOf_miss ?_, edges_zero l m n]
    rw [List.any_eq_false]
    intro x _
    simp [edgeB, rd_zeros]
theorem FnPartEdges : laws_FnPartEdges.Pure := by
  intro c _ hl hw
  by_cases hC : (c.length : Int) > 1048576
  · exact ⟨0, by unfold laws_FnPartEdges.f; rw [if_pos hC]⟩
  apply Ev.get
  unfold laws_FnPartEdges.f
  refine Ev.neg hC ?_
  obtain ⟨n, l, p, hd, l0, p0⟩ := drawPartEdges_ev (by omega) hw
  have hi : Ev (fun k => impl_PartEdges.f n l p) (partEdges n l p) := Ev.of (fun _ => impl_partEdges_val n l p)
  have hs := spec_partEdges_ev n l p (by omega) (by omega)
  have hci : Ev (fun k => impl_PartCut.f n l p) (partCut n l p) := Ev.of (fun _ => impl_partCut_val n l p)
  have hcs := spec_partCut_ev n l p (by omega) (by omega)
  have hlen := partEdges_len n l p
  have hwk := wkInts_self (partEdges n l p) (by omega)
  refine Ev.bind hd (Ev.bind hi (Ev.bind hs (Ev.bind hwk (Ev.pos rfl (Ev.bind hci ?_)))))
  by_cases h : partOkB n l p = true
  rotate_left
  · have e : partCut n l p = -1 := if_neg h
    rw [e] at hci hcs ⊢
    refine Ev.step (fun k => by simp only [laws_FnPartEdges.j0]; rfl) (Ev.pos (by first | rfl | trivial | simp) ?_)
    exact Ev.bind hs (Ev.bind hwk (Ev.pos rfl (Ev.bind hci (Ev.bind hcs ((Ev.ret _).eq (by first | rfl | simp))))))
  · have e : partCut n l p = (cutN p l : Int) := if_pos h
    have e2 : partEdges n l p = edgesOf l p n.toNat := if_pos h
    rw [e] at hci ⊢
    have hin := part_arcs h
    have hn := part_nodes h
    have hmem : ∀ x ∈ l, cutB p x = true → x.f0 ∈ partEdges n l p ∧ x.f1 ∈ partEdges n l p := by
      intro x hx hc
      obtain ⟨⟨a0, a1⟩, b0, b1⟩ := hin x hx
      rw [e2]
      have hc2 : (rd p x.f0 != rd p x.f1) = true := hc
      exact ⟨mem_edgesOf.2 ⟨by omega, List.any_eq_true.2 ⟨x, hx, by simp [edgeB, hc2]⟩⟩, mem_edgesOf.2 ⟨by omega, List.any_eq_true.2 ⟨x, hx, by simp [edgeB, hc2]⟩⟩⟩
    have hasc : (partEdges n l p).Pairwise (· < ·) := by rw [e2]; exact edgesOf_asc
    have hnone : cutN p l = 0 ↔ partEdges n l p = [] := by
      constructor
      · intro h0
        rw [List.eq_nil_iff_forall_not_mem]
        intro v hv
        rw [e2] at hv
        obtain ⟨x, hx, hb⟩ := List.any_eq_true.1 (mem_edgesOf.1 hv).2
        have hc : cutB p x = true := by
          simp only [edgeB, Bool.and_eq_true] at hb
          exact hb.2
        have : x ∈ l.filter (cutB p) := List.mem_filter.2 ⟨hx, hc⟩
        unfold cutN at h0
        rw [List.length_eq_zero_iff.1 h0] at this
        cases this
      · intro h0
        unfold cutN
        rw [List.length_eq_zero_iff, List.filter_eq_nil_iff]
        intro x hx hc
        have := (hmem x hx hc).1
        rw [h0] at this
        cases this
    generalize partEdges n l p = E at *
    refine Ev.step (fun k => by simp only [laws_FnPartEdges.j0]; rfl) (Ev.neg (by first | (simp; done) | (simp; omega)) ?_)
    have hlast : Ev (fun k => laws_FnPartEdges.l1 k p E 1 n l) true := by
      have hend : Ev (fun k => laws_FnPartEdges.l1 k p E (((if E.length = 0 then 1 else E.length : Nat)) : Int) n l) true := by
        refine Ev.step (fun k => by simp only [laws_FnPartEdges.l1]; rw [if_neg (by split <;> omega), if_pos (by omega), if_pos (by omega)]) ?_
        have hz : Ev (fun k => impl_PartEdges.f n l (List.replicate n.toNat 0)) [] := Ev.of (fun _ => by
          rw [impl_partEdges_val]
          unfold partEdges
          rw [edges_zero]
          split <;> rfl)
        refine Ev.bind hz (Ev.pos (by simp) (Ev.bind hci ((Ev.ret _).eq ?_)))
        by_cases hE : E = []
        · have := hnone.2 hE
          rw [hE, this]
          rfl
        · have h1 : E.length ≠ 0 := fun h => hE (List.length_eq_zero_iff.1 h)
          have h2 : cutN p l ≠ 0 := fun h => hE (hnone.1 h)
          have a : decide ((E.length : Int) > 0) = true := decide_eq_true (by omega)
          have b : decide ((cutN p l : Int) > 0) = true := decide_eq_true (by omega)
          rw [a, b]
          rfl
      by_cases hE : E.length = 0
      · rw [if_pos hE] at hend
        exact hend
      · rw [if_neg hE] at hend
        have := downto (P := fun i => 1 ≤ i → Ev (fun k => laws_FnPartEdges.l1 k p E (i : Int) n l) true) (n := E.length) (fun _ => hend) ?_
        · by_cases h1 : E.length = 1
          · rw [h1] at hend
            exact hend
          · have key : ∀ j, 1 + j ≤ E.length → Ev (fun k => laws_FnPartEdges.l1 k p E ((E.length - j : Nat) : Int) n l) true := by
              intro j
              induction j with
              | zero => exact fun _ => by simpa using hend
              | succ j ih =>
                intro hj
                have hnext := ih (by omega)
                obtain ⟨i, hi⟩ : ∃ i, E.length - (j + 1) = i := ⟨_, rfl⟩
                have hi2 : E.length - j = i + 1 := by omega
                rw [hi2] at hnext
                rw [hi]
                obtain ⟨m, rfl⟩ : ∃ m, i = m + 1 := ⟨i - 1, by omega⟩
                have hlt := List.pairwise_iff_getElem.1 hasc m (m + 1) (by omega) (by omega) (by omega)
                refine Ev.step (fun k => ?_) hnext
                simp only [laws_FnPartEdges.l1]
                rw [if_pos (by omega), if_pos (by omega), show ((m + 1 : Nat) : Int) - 1 = (m : Int) by omega, w64 (n := (m : Int)) (by omega), if_pos (by omega), if_pos (by omega), rd_at0 E (m + 1) (by omega), rd_at0 E m (by omega), if_neg (by omega), w64s (by omega)]
            have := key (E.length - 1) (by omega)
            rwa [show E.length - (E.length - 1) = 1 by omega] at this
        · intro i hi hnext h1
          obtain ⟨m, rfl⟩ : ∃ m, i = m + 1 := ⟨i - 1, by omega⟩
          have hlt := List.pairwise_iff_getElem.1 hasc m (m + 1) (by omega) (by omega) (by omega)
          refine Ev.step (fun k => ?_) (hnext (by omega))
          simp only [laws_FnPartEdges.l1]
          rw [if_pos (by omega), if_pos (by omega), show ((m + 1 : Nat) : Int) - 1 = (m : Int) by omega, w64 (n := (m : Int)) (by omega), if_pos (by omega), if_pos (by omega), rd_at0 E (m + 1) (by omega), rd_at0 E m (by omega), if_neg (by omega), w64s (by omega)]
    refine downto (P := fun i => Ev (fun k => laws_FnPartEdges.l0 k p E (i : Int) n l) true) (n := l.length) ?_ ?_
    · exact Ev.step (fun k => by simp only [laws_FnPartEdges.l0]; rw [if_neg (by omega)]) hlast
    · intro i hi hnext
      obtain ⟨⟨a0, a1⟩, b0, b1⟩ := hin l[i] (List.getElem_mem hi)
      refine Ev.step (fun k => by simp only [laws_FnPartEdges.l0]; rw [if_pos (by omega), if_pos (by omega), rd_T33_at l i hi, if_pos a0, if_pos a1, if_pos b0, if_pos b1, w64s (by omega)]) ?_
      by_cases hb : rd p l[i].f0 = rd p l[i].f1
      · exact Ev.pos hb hnext
      · have hm := hmem l[i] (List.getElem_mem hi) (by simp [cutB, hb])
        exact Ev.neg hb (Ev.bind (wkIn_ev E _ (by omega) hm.1) (Ev.pos rfl (Ev.bind (wkIn_ev E _ (by omega) hm.2) (Ev.pos rfl hnext))))
end Go.Proofs.Ytblpdfgplifccaa.Pure
