/- The laws' own tests of likeness, of a thing with itself; RankOf of the program; ranks compared; Marks that were laid stand; how great a hierarchy's parts are at most. -/
import Derived.Test.YtdlaaccnaokdnaaMEv
import Derived.Test.YtdlaaccnaokdnaaGWk
import Derived.Test.YtdlaaccnaokdnaaMRankK
import Derived.Test.YtdlaaccnaokdnaaPFImplRankof
import Derived.Test.YtdlaaccnaokdnaaPFLawsWkrank
import Derived.Test.YtdlaaccnaokdnaaHMarkSS
import Derived.Test.YtdlaaccnaokdnaaGSS
import Derived.Test.YtdlaaccnaokdnaaPFLawsHeldrank
set_option linter.unusedVariables false
namespace Go.Proofs.Ytdlaaccnaokdnaa.M
open Go.RowKit Go.Proofs.Ytdlaaccnaokdnaa.P Go.Proofs.YtdlaaccnaokdnaaV.PrintWords Go.Proofs.YtdlaaccnaokdnaaV.PrintMore

theorem rdL5_at_ (T : List (List Int)) (i : Nat) (hi : i < T.length) : rd_L5 T (i : Int) = T[i] := by
  simp [rd_L5, List.getD, hi]
theorem wkInts_self (l : List Int) (hl : l.length ≤ 4611686018427387904) : Ev (fun k => laws_wkInts.f k l l) true := by
  refine Ev.congr (G := fun k => laws_wkInts.l0 k l l 0) (fun k => by unfold laws_wkInts.f; rw [if_pos rfl]) ?_
  refine downto (P := fun i => Ev (fun k => laws_wkInts.l0 k l l (i : Int)) true) (n := l.length) ?_ ?_
  · refine Ev.step (G := fun _ => some true) (fun k => ?_) (Ev.ret _)
    simp only [laws_wkInts.l0]
    rw [if_neg (by omega)]
  · intro i hi h
    refine Ev.step (fun k => ?_) h
    simp only [laws_wkInts.l0, if_true]
    rw [if_pos (by omega), if_pos (by omega), if_pos (by omega), w64s (by omega)]
theorem wkGrid_self (g : List (List Int)) (hg : g.length ≤ 4611686018427387904) (hr : ∀ r ∈ g, r.length ≤ 4611686018427387904) : Ev (fun k => laws_wkGrid.f k g g) true := by
  refine Ev.congr (G := fun k => laws_wkGrid.l0 k g g 0) (fun k => by unfold laws_wkGrid.f; rw [if_pos rfl]) ?_
  refine downto (P := fun i => Ev (fun k => laws_wkGrid.l0 k g g (i : Int)) true) (n := g.length) ?_ ?_
  · refine Ev.step (G := fun _ => some true) (fun k => ?_) (Ev.ret _)
    simp only [laws_wkGrid.l0]
    rw [if_neg (by omega)]
  · intro i hi h
    refine Ev.step (G := fun k => (laws_wkInts.f k (rd_L5 g (i : Int)) (rd_L5 g (i : Int))).bind fun t103 => (if t103 = true then (laws_wkGrid.l0 k g g ((i + 1 : Nat) : Int)) else (some false))) (fun k => ?_) ?_
    · simp only [laws_wkGrid.l0]
      rw [if_pos (by omega), if_pos (by omega), if_pos (by omega), w64s (by omega)]
    · refine Ev.bind (wkInts_self _ ?_) (Ev.pos rfl h)
      rw [rdL5_at_ g i hi]
      exact hr _ (List.getElem_mem hi)
end Go.Proofs.Ytdlaaccnaokdnaa.M
set_option linter.unusedVariables false
namespace Go.Proofs.Ytdlaaccnaokdnaa.M
open Go.RowKit Go.Proofs.Ytdlaaccnaokdnaa.P Go.Proofs.YtdlaaccnaokdnaaV.PrintWords Go.Proofs.YtdlaaccnaokdnaaV.PrintMore
def rkOf (n : Int) (l : List S61) (o : List Int) : List Int × List (List Int) × List (List Int) := if netOkB n l = true ∧ Ord o n then (o, mat n.toNat (rkAll o (arcS l)).1, mat n.toNat (rkAll o (arcS l)).2) else ([], [], [])
theorem implRankOf_eq (n : Int) (l : List S61) (o : List Int) (ho : o.length ≤ 1048576) : impl_RankOf.f n l o = some (rkOf n l o) := by
  unfold impl_RankOf.f impl_NetOk.f rkOf
  rw [Option.bind_some]
  by_cases h1 : netOkB n l = true
  rotate_left
  · rw [if_neg h1, if_neg (fun h => h1 h.1)]
  rw [if_pos h1]
  unfold impl_permuted.f
  rw [if_pos ho, Option.bind_some]
  by_cases h2 : Ord o n
  rotate_left
  · rw [if_neg (by simp [h2]), if_neg (fun h => h2 h.2)]
  rw [if_pos (by simp [h2]), if_pos ⟨h1, h2⟩]
  unfold impl_rankOf.f
  rw [rkF_yes h1 h2, Option.bind_some]
theorem wkRank_self {o : List Int} {c v : List (List Int)} (ho : o.length ≤ 1048576) (hc : Few c) (hv : Few v) : Ev (fun k => laws_wkRank.f k o c v o c v) true := by
  refine Ev.congr (G := fun k => (laws_wkInts.f k o o).bind fun t103 => (if t103 = true then ((laws_wkGrid.f k c c).bind fun t104 => (if t104 = true then ((laws_wkGrid.f k v v).bind fun t105 => (some t105)) else (some false))) else (some false))) (fun k => by unfold laws_wkRank.f; rfl) ?_
  refine Ev.bind (wkInts_self o (by omega)) (Ev.pos rfl (Ev.bind (wkGrid_self c ?_ ?_) (Ev.pos rfl (Ev.bind (wkGrid_self v ?_ ?_) (Ev.ret _)))))
  · have := hc.1; omega
  · exact fun r hr => by have := hc.2 r hr; omega
  · have := hv.1; omega
  · exact fun r hr => by have := hv.2 r hr; omega
theorem rkOf_few (n : Int) (l : List S61) (o : List Int) (ho : o.length ≤ 1048576) : (rkOf n l o).1.length ≤ 1048576 ∧ Few (rkOf n l o).2.1 ∧ Few (rkOf n l o).2.2 := by
  unfold rkOf
  by_cases h : netOkB n l = true ∧ Ord o n
  · rw [if_pos h]
    obtain ⟨b1, b2, b3⟩ := rk_bounds h.1
    exact ⟨ho, few_mat (by omega) _, few_mat (by omega) _⟩
  · rw [if_neg h]
    exact ⟨by simp, ⟨by simp, by simp⟩, ⟨by simp, by simp⟩⟩
end Go.Proofs.Ytdlaaccnaokdnaa.M
set_option linter.unusedVariables false
namespace Go.Proofs.Ytdlaaccnaokdnaa.M
open Go.RowKit Go.Proofs.Ytdlaaccnaokdnaa.P Go.Proofs.YtdlaaccnaokdnaaV.PrintWords Go.Proofs.YtdlaaccnaokdnaaV.PrintMore
theorem marksSS_at (m : Int) (l : List (List Int)) (i : Nat) (hi : i < l.length) : (marksSS m l)[i]'(by rw [marksSS_length]; exact hi) = marks (m + msum (l.take i)) l[i].length := by
  have e : l = l.take i ++ l[i] :: l.drop (i + 1) := by rw [← List.drop_eq_getElem_cons hi, List.take_append_drop]
  have key : ∀ (a : List (List Int)) (m : Int) (r : List Int) (b : List (List Int)), (marksSS m (a ++ r :: b))[a.length]? = some (marks (m + msum a) r.length) := by
    intro a
    induction a with
    | nil => intro m r b; simp [marksSS, msum]
    | cons x a ih =>
      intro m r b
      simp only [List.cons_append, marksSS, List.length_cons, List.getElem?_cons_succ]
      rw [ih]
      simp only [msum, List.map_cons, List.sum_cons]
      congr 2
      omega
  have h := key (l.take i) m l[i] (l.drop (i + 1))
  rw [← e, List.length_take, Nat.min_eq_left (by omega), List.getElem?_eq_getElem (by rw [marksSS_length]; exact hi)] at h
  exact Option.some.inj h
theorem heldSS_marks (m : Int) (l : List (List Int)) (hm : 0 ≤ m) (hl : m + msum l ≤ 4611686018427387904) (hn : l.length ≤ 1048576) : Ev (fun k => laws_heldIntSS.f k (marksSS m l) m) (m + msum l) := by
  show Ev (fun k => laws_heldIntSS.l0 k (marksSS m l) m 0) _
  have hP := downto (P := fun i => Ev (fun k => laws_heldIntSS.l0 k (marksSS m l) (m + msum (l.take i)) (i : Int)) (m + msum l)) (n := l.length) ?_ ?_
  · simpa [msum] using hP
  · refine Ev.step (G := fun _ => some (m + msum l)) (fun k => ?_) (Ev.ret _)
    simp only [laws_heldIntSS.l0]
    rw [if_neg (by rw [marksSS_length]; omega), List.take_length]
  · intro i hi h
    have h1 := msum_take l i hi
    have h2 := msum_le l (i + 1)
    refine Ev.step (G := fun k => (laws_heldIntS.f k (marks (m + msum (l.take i)) l[i].length) (m + msum (l.take i))).bind fun t102 => (if t102 < 0 then (some (-1)) else (laws_heldIntSS.l0 k (marksSS m l) t102 ((i + 1 : Nat) : Int)))) (fun k => ?_) ?_
    · simp only [laws_heldIntSS.l0]
      rw [if_pos (by rw [marksSS_length]; omega), if_pos (by omega), w64s (by omega), rdL5_at_ _ i (by rw [marksSS_length]; exact hi), marksSS_at m l i hi]
    · refine Ev.bind (heldIntS_marks _ _ (by omega) (by omega)) (Ev.neg (by omega) ?_)
      rw [show m + (msum (l.take i) : Int) + (l[i].length : Int) = m + (msum (l.take (i + 1)) : Int) by omega]
      exact h
theorem heldRank_marks (m : Int) (n : Nat) (r2 r3 : List (List Int)) (hm : 0 ≤ m) (hl : m + n + msum r2 + msum r3 ≤ 4611686018427387904) (n2 : r2.length ≤ 1048576) (n3 : r3.length ≤ 1048576) : Ev (fun k => laws_heldRank.f k (marks m n) (marksSS (m + n) r2) (marksSS (m + n + msum r2) r3) m) (m + n + msum r2 + msum r3) := by
  unfold laws_heldRank.f
  refine Ev.bind (heldIntS_marks m n hm (by omega)) (Ev.neg (by omega) ?_)
  refine Ev.bind (heldSS_marks (m + n) r2 (by omega) (by omega) n2) (Ev.neg (by omega) ?_)
  exact Ev.bind (heldSS_marks (m + n + msum r2) r3 (by omega) hl n3) (Ev.neg (by omega) (Ev.ret _))
/-- at most eight rows of at most eight -/
def Eight (g : List (List Int)) : Prop := g.length ≤ 8 ∧ ∀ r ∈ g, r.length ≤ 8
theorem Eight.few {g : List (List Int)} (h : Eight g) : Few g := ⟨by have := h.1; omega, fun r hr => by have := h.2 r hr; omega⟩
theorem Eight.nil : Eight [] := ⟨by simp, fun r hr => by cases hr⟩
theorem Eight.mat {n : Nat} (hn : n ≤ 8) (F : Int → Int → Int) : Eight (mat n F) := by
  refine ⟨by rw [mat_len]; omega, fun r hr => ?_⟩
  obtain ⟨i, _, rfl⟩ := List.mem_map.1 hr
  rw [rowF_len]; omega
theorem Eight.sum {g : List (List Int)} (h : Eight g) : msum g ≤ 64 := by
  have key : ∀ l : List (List Int), (∀ x ∈ l, x.length ≤ 8) → msum l ≤ 8 * l.length := by
    intro l
    induction l with
    | nil => intro _; exact Nat.le_refl _
    | cons x l ih =>
      intro h
      have h1 := h x (List.mem_cons_self ..)
      have h2 := ih (fun y hy => h y (List.mem_cons_of_mem _ hy))
      simp only [msum, List.map_cons, List.sum_cons, List.length_cons] at h2 ⊢
      omega
  have := key g h.2
  have := h.1
  omega
/-- rows and tables that passed the law's own measure -/
theorem few_sum {g : List (List Int)} (h : Few g) : msum g ≤ 1048576 * 1048576 := by
  have key : ∀ l : List (List Int), (∀ x ∈ l, x.length ≤ 1048576) → msum l ≤ 1048576 * l.length := by
    intro l
    induction l with
    | nil => intro _; exact Nat.le_refl _
    | cons x l ih =>
      intro h
      have h1 := h x (List.mem_cons_self ..)
      have h2 := ih (fun y hy => h y (List.mem_cons_of_mem _ hy))
      simp only [msum, List.map_cons, List.sum_cons, List.length_cons] at h2 ⊢
      omega
  have h1 := key g h.2
  have h2 := h.1
  exact Nat.le_trans h1 (Nat.mul_le_mul_left _ h2)
theorem rkOf_eight (n : Int) (l : List S61) (o : List Int) : (rkOf n l o).1.length ≤ 8 ∧ Eight (rkOf n l o).2.1 ∧ Eight (rkOf n l o).2.2 := by
  unfold rkOf
  by_cases h : netOkB n l = true ∧ Ord o n
  · rw [if_pos h]
    obtain ⟨b1, b2, b3⟩ := rk_bounds h.1
    have := h.2.1
    exact ⟨by simp only; omega, Eight.mat (by omega) _, Eight.mat (by omega) _⟩
  · rw [if_neg h]
    exact ⟨by simp, Eight.nil, Eight.nil⟩
end Go.Proofs.Ytdlaaccnaokdnaa.M
