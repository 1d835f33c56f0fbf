/- MarkNear, the program's and the specification's: one answer. -/
import Derived.Test.YtjmpngfgfddpaaaMNear
set_option linter.unusedVariables false
namespace Go.Proofs.Ytjmpngfgfddpaaa.M
open Go.RowKit Go.Proofs.Ytjmpngfgfddpaaa.P Go.Proofs.YtjmpngfgfddpaaaV.PrintWords Go.Proofs.YtjmpngfgfddpaaaV.PrintMore

theorem rdOf_rep (n : Nat) (v : Int) : rdOf false (List.replicate n false) v = false := by
  unfold rdOf
  rw [List.getD_eq_getElem?_getD, List.getElem?_replicate]
  split <;> rfl
theorem d0_rd {n : Nat} {s : Int} (hs : 0 ≤ s ∧ s < n) {y : Int} (hy : 0 ≤ y) (hyn : y < n) : rd (d0 n s) y = if y = s then 0 else 99999 := by
  unfold d0
  rw [rd_set _ s hs.1 (by simp; omega) _ y hy]
  by_cases e : y = s
  · rw [if_pos e, if_pos e]
  · rw [if_neg e, if_neg e]
    obtain ⟨y, rfl⟩ := Int.eq_ofNat_of_zero_le hy
    rw [rd_at0 _ y (by simp; omega)]
    simp
theorem seek0 {n : Nat} {l : List S33} {s : Int} (hs : 0 ≤ s ∧ s < n) {D : List Int} {B : Int → Int} : Seek n l s D B (d0 n s) (fun v => rdOf false (List.replicate n false) v) := by
  refine ⟨by simp [d0], fun y h0 h1 => ?_, ?_, fun u h0 h1 h2 => ?_⟩
  · rw [d0_rd hs h0 h1]
    by_cases e : y = s
    · rw [if_pos e]
      subst e
      exact .inr ⟨Int.le_refl _, by decide, Walk.nil⟩
    · rw [if_neg e]
      exact .inl rfl
  · rw [d0_rd hs hs.1 hs.2, if_pos rfl]
  · simp only [rdOf_rep] at h2
    cases h2
theorem spec_seek_ev {nodes : Int} {l : List S33} (h : netOkB nodes l = true) {T : List (List Int)} (hT : Tab nodes.toNat l T) (hsp : ∀ i : Int, 0 ≤ i → i < nodes → Ev (fun k => spec_l3All.f k nodes l i) (rd_L5 T i)) {ms : List Int} (hml : ms.length ≤ 8) (hr : ∀ m ∈ ms, 0 ≤ m ∧ m < nodes) {s t : Int} (hs : 0 ≤ s ∧ s < nodes) (ht : 0 ≤ t ∧ t < nodes) {R : Int × Int}
    (hR : ∀ BL : List Int, BL.length = nodes.toNat → (∀ y : Int, 0 ≤ y → y < (nodes.toNat : Int) → rd BL y = clampB (bndRaw T y t ms)) → Ev (fun k => spec_l12Seek.l1 k t (d0 nodes.toNat s) BL (List.replicate nodes.toNat false) 0 nodes l) R) : Ev (fun k => spec_l12Seek.f k nodes l ms s t) R := by
  obtain ⟨n1, n2, n3⟩ := Good.nodes h
  unfold spec_l12Seek.f
  refine Ev.pos (by omega) (Ev.pos (by omega) (Ev.pos (by omega) ?_))
  have hB := fun (v : Int) (v0 : 0 ≤ v) (v1 : v < nodes) => l12Bound_ev h hT hsp (ms := ms) (by omega) hr (x := v) (y := t) ⟨v0, v1⟩ ht
  obtain ⟨n, rfl⟩ := Int.eq_ofNat_of_zero_le (show 0 ≤ nodes by omega)
  simp only [Int.toNat_natCast] at hR hT ⊢
  let BL : Nat → List Int := fun i => (List.range i).map fun (v : Nat) => clampB (bndRaw T (v : Int) t ms)
  let st : Nat → List Int := fun i => List.replicate i (99999 : Int) ++ List.replicate (n - i) 0
  have h0 : List.replicate n (0 : Int) = st 0 := by simp [st]
  rw [h0]
  refine downto (P := fun i => Ev (fun k => spec_l12Seek.l0 k ms s t (st i) (BL i) (List.replicate n false) (i : Int) n l) R) (n := n) ?_ ?_
  · have hst : st n = List.replicate n (99999 : Int) := by simp [st]
    refine Ev.step (G := fun k => spec_l12Seek.l1 k t (d0 n s) (BL n) (List.replicate n false) 0 n l) (fun k => by
      simp only [spec_l12Seek.l0]
      rw [if_neg (by omega), if_pos hs.1, hst, if_pos (by simp; omega)]
      rfl) (hR (BL n) (by simp [BL]) (fun y y0 y1 => ?_))
    obtain ⟨y, rfl⟩ := Int.eq_ofNat_of_zero_le y0
    rw [rd_at0 _ y (by simp [BL]; omega)]
    simp [BL]
  · intro i hi hnext
    have hst : (st i).length = n := by simp [st]; omega
    have hbl : (BL i).length < 17592186044416 := by simp [BL]; omega
    refine Ev.step (fun k => by simp only [spec_l12Seek.l0]; rw [if_pos (by omega), if_pos (by omega), if_pos (by omega)]) ?_
    refine Ev.bind (hB (i : Int) (by omega) (by omega)) (Ev.pos hbl ?_)
    rw [w64s (by omega)]
    have e1 : (st i).set ((i : Nat) : Int).toNat 99999 = st (i + 1) := by
      simp only [Int.toNat_natCast, st]
      rw [List.set_append_right _ _ (by simp), List.replicate_succ', List.append_assoc]
      congr 1
      simp only [List.length_replicate, Nat.sub_self, List.singleton_append]
      rw [show n - i = (n - (i + 1)) + 1 by omega, List.replicate_succ, List.set_cons_zero]
    have e2 : BL i ++ [clampB (bndRaw T (i : Int) t ms)] = BL (i + 1) := by
      simp only [BL]
      rw [List.range_succ, List.map_append]
      rfl
    rw [e1, e2]
    exact hnext
theorem markNear_ok {nodes s t : Int} {l : List S33} {ms : List Int} (h : netOkB nodes l = true) (hm : okL nodes ms = true) (hs : inB nodes s = true) (ht : inB nodes t = true) {T : List (List Int)} (hE : Ev (fun k => impl_Net_table.f k nodes l) T) (hT : Tab nodes.toNat l T) (hsp : ∀ i : Int, 0 ≤ i → i < nodes → Ev (fun k => spec_l3All.f k nodes l i) (rd_L5 T i)) :
    ∃ c : Int, Ev (fun k => impl_MarkNear.f k nodes l ms s t) (rd (rd_L5 T s) t, c) ∧ Ev (fun k => spec_MarkNear.f k nodes l ms s t) (rd (rd_L5 T s) t, c) ∧ 0 ≤ c ∧ c ≤ nodes ∧ (0 < c ∨ rd (rd_L5 T s) t = 99999) := by
  obtain ⟨n1, n2, n3⟩ := Good.nodes h
  obtain ⟨m1, m2⟩ := okL_len hm
  have hg := netOk_good h
  have hs' := (inB_iff ⟨n1, n2⟩).1 hs
  have ht' := (inB_iff ⟨n1, n2⟩).1 ht
  have hmem := mem_okL ⟨n1, n2⟩ m1
  have hmem' : ∀ m ∈ ms, 0 ≤ m ∧ m < (nodes.toNat : Int) := fun m hm => by have := hmem m hm; omega
  have hD := hT.row s (by omega) (by omega)
  have hcast : ((nodes.toNat : Nat) : Int) = nodes := by omega
  have key := fun (BL : List Int) (hBL : BL.length = nodes.toNat) (hB : ∀ y : Int, 0 ≤ y → y < (nodes.toNat : Int) → rd BL y = clampB (bndRaw T y t ms)) => both_ev hg n3 (by omega) hT m2 hmem' (s := s) (t := t) (by omega) (by omega) hD hBL hB nodes.toNat (d0 nodes.toNat s) (List.replicate nodes.toNat false) 0 (und_rep _) (by simp) (rdOf_rep _ _) (Int.le_refl _) (by omega) (seek0 (by omega))
  simp only [hcast] at key
  let BL0 : List Int := (List.range nodes.toNat).map fun (v : Nat) => clampB (bndRaw T (v : Int) t ms)
  have hBL0 : BL0.length = nodes.toNat := by simp [BL0]
  have hB0 : ∀ y : Int, 0 ≤ y → y < nodes → rd BL0 y = clampB (bndRaw T y t ms) := by
    intro y y0 y1
    obtain ⟨y, rfl⟩ := Int.eq_ofNat_of_zero_le y0
    rw [rd_at0 _ y (by simp [BL0]; omega)]
    simp [BL0]
  obtain ⟨c, e1, e2, c0, c1, c2⟩ := key BL0 hBL0 hB0
  refine ⟨c, ?_, ?_, c0, by omega, c2⟩
  · unfold impl_MarkNear.f impl_Net_has.f
    rw [listOk_val]
    simp only [h, hm, Option.bind_some, Bool.and_self, if_true, List.all_cons, List.all_nil, hs, ht]
    refine Ev.step (fun k => by simp only [impl_MarkNear.j0]; rfl) ?_
    refine Ev.neg (by simp) (Ev.bind hE ?_)
    refine Ev.congr (G := fun k => impl_MarkNear.l0 k ms t T (d0 nodes.toNat s) (List.replicate nodes.toNat false) 0 nodes l) (fun k => ?_) e1
    unfold slices_Repeat_int.f
    rw [if_pos ⟨rfl, by omega, by omega⟩, Option.bind_some, if_pos hs'.1, if_pos (by simp; omega), if_pos (by omega), if_pos (by omega)]
    rfl
  · unfold spec_MarkNear.f
    simp only [l1In_inB, Option.bind_some, hs, ht]
    refine Ev.bind (l1Ok_netOkB nodes l (by omega)) (Ev.pos h (Ev.bind (l11Nodes_ev nodes l ms (by omega)) (Ev.pos hm (Ev.pos (by trivial) (Ev.pos (by trivial) (Ev.bind (a := (rd (rd_L5 T s) t, c)) ?_ (Ev.ret _)))))))
    refine spec_seek_ev h hT hsp m2 hmem hs' ht' (fun BL hBL hB => ?_)
    rw [hcast] at hB
    have hBB : BL = BL0 := list_ext (n := nodes.toNat) hBL hBL0 (fun i hi => by rw [hB (i : Int) (by omega) (by omega), hB0 (i : Int) (by omega) (by omega)])
    rw [hBB]
    exact e2
theorem impl_markNear_bad {nodes x y : Int} {l : List S33} {ms : List Int} (h : okMark nodes l ms x y = false) : Ev (fun k => impl_MarkNear.f k nodes l ms x y) (-1, -1) := by
  have hj : Ev (fun k => impl_MarkNear.j0 k ms x y true nodes l) (-1, -1) := Ev.step (G := fun _ => some (-1, -1)) (fun k => by simp [impl_MarkNear.j0]) (Ev.ret _)
  unfold okMark at h
  unfold impl_MarkNear.f impl_Net_has.f
  rw [listOk_val]
  simp only [Option.bind_some, List.all_cons, List.all_nil, Bool.and_true]
  by_cases h1 : (netOkB nodes l && okL nodes ms) = true
  · rw [h1, Bool.true_and] at h
    rw [h]
    exact Ev.pos h1 hj
  · exact Ev.neg h1 hj
theorem spec_markNear_bad {nodes x y : Int} {l : List S33} {ms : List Int} (hl : l.length ≤ 1048576) (hml : ms.length ≤ 1048576) (h : okMark nodes l ms x y = false) : Ev (fun k => spec_MarkNear.f k nodes l ms x y) (-1, -1) := by
  unfold okMark at h
  unfold spec_MarkNear.f
  simp only [l1In_inB, Option.bind_some]
  refine Ev.bind (l1Ok_netOkB nodes l (by omega)) ?_
  by_cases h1 : netOkB nodes l = true
  · refine Ev.pos h1 (Ev.bind (l11Nodes_ev nodes l ms (by omega)) ?_)
    by_cases h2 : okL nodes ms = true
    · refine Ev.pos h2 ?_
      by_cases h3 : inB nodes x = true
      · refine Ev.pos h3 ?_
        rw [h1, h2, h3] at h
        exact Ev.neg (by simpa using h) (Ev.ret _)
      · exact Ev.neg h3 (Ev.ret _)
    · exact Ev.neg h2 (Ev.ret _)
  · exact Ev.neg h1 (Ev.ret _)
/-- ONE ANSWER -/
theorem markNear_ev (nodes x y : Int) (l : List S33) (ms : List Int) (hl : l.length ≤ 1048576) (hml : ms.length ≤ 1048576) : ∃ r, Ev (fun k => impl_MarkNear.f k nodes l ms x y) r ∧ Ev (fun k => spec_MarkNear.f k nodes l ms x y) r := by
  cases h : okMark nodes l ms x y with
  | false => exact ⟨_, impl_markNear_bad h, spec_markNear_bad hl hml h⟩
  | true =>
    simp only [okMark, Bool.and_eq_true] at h
    obtain ⟨⟨h1, h2⟩, h3, h4⟩ := h
    obtain ⟨T, e1, e2, e3⟩ := tab_ev h1
    obtain ⟨c, f1, f2, _⟩ := markNear_ok h1 h2 h3 h4 e1 e2 (fun i a b => (e3 i a b).2)
    exact ⟨_, f1, f2⟩
end Go.Proofs.Ytjmpngfgfddpaaa.M
