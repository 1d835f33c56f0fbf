-- written for this claim by a program (wip/gen/myprint.py over the print tool). Not trusted: Lean checks it.
import Derived.Test.YtjmpngfgfddpaaaPx0
import Derived.Test.YtjmpngfgfddpaaaHUp
namespace Go.Proofs.Ytjmpngfgfddpaaa.P
open Go.RowKit Go.Proofs.YtjmpngfgfddpaaaV.PrintWords Go.Proofs.YtjmpngfgfddpaaaV.PrintLast
set_option linter.unusedVariables false
set_option linter.unusedSimpArgs false

/-! ### impl_Net_back: function 115 -/
def impl_Net_back.l0 : Nat → List (S33) → Int → Int → Int → List (S33) → Option (Int × (List (S33)))
 | 0, _, _, _, _, _ => none
 | k + 1, x14, x15, x16, x107000, x107001 => if x16 < x15 then (if 0 ≤ x16 then (if x16 < (x14.length : Int) then (if x107001.length < 3518437208883 then (impl_Net_back.l0 k x14 x15 (wrap64 (x16 + 1)) x107000 (x107001 ++ [(⟨(rd_T33 x14 x16).f1, (rd_T33 x14 x16).f0, (rd_T33 x14 x16).f2, (rd_T33 x14 x16).f3, (rd_T33 x14 x16).f4⟩ : S33)])) else (none)) else (none)) else (none)) else (some (x107000, x107001))
def impl_Net_back.f (k : Nat) (a0_0 : Int) (l0_1 : List (S33)) : Option (Int × (List (S33))) := if 0 ≤ (l0_1.length : Int) then (if ((l0_1.length : Int) : Int).toNat ≤ 7036874417766 then (impl_Net_back.l0 k l0_1 (l0_1.length : Int) 0 a0_0 (([] : List (S33)))) else (none)) else (none)
def impl_Net_back.T1 : Bool × List (List Nat × List Nat) := (true, [([], []), ([0], [0]), ([], []), ([2], [2]), ([3], [3]), ([4], [4]), ([1, 5], [1, 5]), ([], []), ([7, 6, 0, 1, 2, 3, 4, 5, 6, 7], [6, 7])])
def impl_Net_back.B1 : List Nat := [0, 1, 0, 4, 12, 28, 63, 0, 255]
theorem impl_Net_back.tab1 : rtab .any (opsOf Try.f115 1) = impl_Net_back.T1 := by kernel_rfl
theorem impl_Net_back.bits1 : waitsOk impl_Net_back.T1.2 impl_Net_back.B1 = true := by kernel_rfl
set_option maxHeartbeats 8000000 in
set_option maxRecDepth 100000 in
theorem impl_Net_back.calls (k : Nat) (a0_0 : Int) (A0_1 : Option Addr) (c0_1 : Nat) (l0_1 : List (S33)) (r1 : Int) (r2 : List (S33)) (w : World) (hr0_1 : Kd.C k33 w A0_1 l0_1.length l0_1) (hc0_1 : l0_1.length ≤ c0_1) (h : impl_Net_back.f k a0_0 l0_1 = some (r1, r2)) :
  Calls Try.prog 115 #[.agg #[.int .i64 a0_0, .slice A0_1 l0_1.length c0_1]] w fun e w' => ∃ v1_ : Value, e = .returned (.agg #[.int .i64 r1, v1_]) ∧ Kd.R k33 33 w' w.heap.size (fun _ => True) v1_ r2 ∧ Below w.heap.size w w' := by
 have hu25 := Try.underlying25
 have hu33 := Try.underlying33
 have HR0_1 := Aside0.mk hr0_1
 have HC0_1 := Aside0.mk hc0_1
 clear hr0_1 hc0_1
 have HB := Aside0.mk (Below.refl w.heap.size w)
 have H : (if 0 ≤ (l0_1.length : Int) then (if ((l0_1.length : Int) : Int).toNat ≤ 7036874417766 then (impl_Net_back.l0 k l0_1 (l0_1.length : Int) 0 a0_0 (([] : List (S33)))) else (none)) else (none)) = some (r1, r2) := h
 clear h
 by_cases c2 : 0 ≤ (l0_1.length : Int)
 ·
  rw [if_pos c2] at H
  have c2b0 := eq_true c2
  have c2b1 : decide (0 ≤ (l0_1.length : Int)) = true := decide_eq_true c2
  clear c2
  by_cases c3 : ((l0_1.length : Int) : Int).toNat ≤ 7036874417766
  ·
   rw [if_pos c3] at H
   have c3b0 := eq_true c3
   have c3b1 : decide (((l0_1.length : Int) : Int).toNat ≤ 7036874417766) = true := decide_eq_true c3
   clear c3
   obtain ⟨y103, hy103⟩ : ∃ y_ : List (S33), y_ = (([] : List (S33))) := ⟨_, rfl⟩
   replace H : (impl_Net_back.l0 k l0_1 (l0_1.length : Int) 0 a0_0 y103) = some (r1, r2) := by first | (rw [hy103]; with_reducible exact H) | (have H2_ := (Option.bind_some _ _).symm.trans H; rw [hy103]; with_reducible exact H2_) | (have H2_ := (Option.bind_some _ _).symm.trans H; with_reducible exact H2_) | with_reducible exact H | (rw [hy103]; exact H) | exact H
   have Ny103 := Aside0.mk hy103
   clear hy103
   have H' := Aside0.mk H
   clear H
   go_enter Try.func115, Try.ntmps115
   try go_wp2_with (first | ((with_reducible refine gate_dst (N := 1) rfl ?_); refine box_event ?hg (N := 1) ?hd (cs := #[.int .i64 a0_0, .slice A0_1 l0_1.length c0_1]) (t := 25) ?hr ?_; (case hd => rfl); (case hg => rfl); (case hr => first | (go_simp; done) | (go_simp; rfl)); intro gb101 hg w4 hbox hb; have n0_ := Aside0.mk (below_step (uB0 HB) hb); have n1_ := Aside0.mk (hbox); have n2_ := Aside0.mk ((by rw [hg]; exact (below_size (uB0 HB)) : w.heap.size ≤ gb101)); have n3_ := Aside0.mk ((by rw [hg]; exact (below_size (uB0 HB)) : w.heap.size ≤ gb101)); clear HB; have HB := n0_; have BK101 := n1_; have GW101 := n2_; have GE101 := n3_; clear n0_ n1_ n2_ n3_; clear hb hbox hg) | ((with_reducible refine gate_dst (N := 2) rfl ?_); refine box_event ?hg (N := 2) ?hd (cs := #[.int .i64 0, .slice none 0 0]) (t := 25) ?hr ?_; (case hd => rfl); (case hg => rfl); (case hr => first | (go_simp; done) | (go_simp; rfl)); intro gb102 hg w5 hbox hb; have n0_ := Aside0.mk (blk_below (g := gb101) (o := .cells #[.int .i64 a0_0, .slice A0_1 l0_1.length c0_1] 25 (0, 0)) (ub BK101) hb); have n1_ := Aside0.mk (below_step (uB1 HB GE101.out) hb); have n2_ := Aside0.mk (hbox); have n3_ := Aside0.mk ((by rw [hg]; exact (below_size (uB1 HB GE101.out)) : w.heap.size ≤ gb102)); have n4_ := Aside0.mk ((by rw [hg]; exact (below_size (uB1 HB GE101.out)) : w.heap.size ≤ gb102)); have n5_ := Aside0.mk ((by rw [hg]; exact Nat.ne_of_lt (blk_lt (g := gb101) (o := .cells #[.int .i64 a0_0, .slice A0_1 l0_1.length c0_1] 25 (0, 0)) (ub BK101)) : gb101 ≠ gb102)); have n6_ := Aside0.mk ((by rw [hg]; exact Nat.ne_of_gt (blk_lt (g := gb101) (o := .cells #[.int .i64 a0_0, .slice A0_1 l0_1.length c0_1] 25 (0, 0)) (ub BK101)) : gb102 ≠ gb101)); clear BK101; clear HB; have BK101 := n0_; have HB := n1_; have BK102 := n2_; have GW102 := n3_; have GE102 := n4_; have NB101_102 := n5_; have NB102_101 := n6_; clear n0_ n1_ n2_ n3_ n4_ n5_ n6_; clear hb hbox hg))
   have n0_ := Aside0.mk (blk_drew BK101.out)
   have n1_ := Aside0.mk (blk_drew BK102.out)
   have n2_ := Aside0.mk (below_drew1 HB.out)
   clear BK101
   clear BK102
   clear HB
   have BK101 := n0_
   have BK102 := n1_
   have HB := n2_
   clear n0_ n1_ n2_
   refine start_ (n := 9) (S := fun w' => w'.cell? ⟨gb101, 0, none⟩ = some (.int .i64 a0_0) ∧ w'.cell? ⟨gb101, 1, none⟩ = some (.slice A0_1 l0_1.length c0_1)) (ds := []) #[false, false, false, false, false, false, false, false, false] (by kernel_rfl) rfl rfl ⟨(blk_cell BK101.out 0).trans rfl, (blk_cell BK101.out 1).trans rfl⟩ (fun hHeld => ?_); refine with_tabW impl_Net_back.tab1 impl_Net_back.bits1 (fun HT_ HW_ => ?_)
   generalize w5.drew = w6 at BK101 BK102 HB hHeld ⊢
   refine pure_ (i := 0) (N := some 6) (v := ?_) (a' := ?_) #[true, false, false, false, false, false, false, false, false] rfl rfl (any_of HT_.out (by kernel_rfl)) (fun _ _ _ h => h) (Or.inl ⟨by rfl, ?_⟩) ?_ ?_
   rotate_left
   ·
    intro w'
    go_simp
    with_reducible rfl
   rotate_left
   ·
    simp only [Act.put, List.setIfInBounds_toArray, List.set_cons_zero, List.set_cons_succ, i64_w, i32_w]
    rfl
   refine pure_ (i := 2) (N := some 8) (v := ?_) (a' := ?_) #[true, false, true, false, false, false, false, false, false] rfl rfl (any_of HT_.out (by kernel_rfl)) (fun _ _ _ h => h) (Or.inl ⟨by rfl, ?_⟩) ?_ ?_
   rotate_left
   ·
    intro w'
    go_simp
    with_reducible rfl
   rotate_left
   ·
    simp only [Act.put, List.setIfInBounds_toArray, List.set_cons_zero, List.set_cons_succ, i64_w, i32_w]
    rfl
   refine take_ (i := 1) (N := some 7) (v := ?_) (a' := ?_) #[true, true, true, false, false, false, false, false, false] rfl rfl (take_ofW HT_.out HW_.out (by kernel_rfl)) (fun _ _ _ h => h) (Or.inl ⟨by rfl, ?_⟩) hHeld ?_ ?_
   rotate_left
   ·
    rintro w' ⟨s0, s1⟩
    go_simp
    with_reducible rfl
   rotate_left
   ·
    simp only [Act.put, List.setIfInBounds_toArray, List.set_cons_zero, List.set_cons_succ, i64_w, i32_w]
    rfl
   refine take_ (i := 3) (N := some 9) (v := ?_) (a' := ?_) #[true, true, true, true, false, false, false, false, false] rfl rfl (take_ofW HT_.out HW_.out (by kernel_rfl)) (fun _ _ _ h => h) (Or.inl ⟨by rfl, ?_⟩) hHeld ?_ ?_
   rotate_left
   ·
    rintro w' ⟨s0, s1⟩
    go_simp
    with_reducible rfl
   rotate_left
   ·
    simp only [Act.put, List.setIfInBounds_toArray, List.set_cons_zero, List.set_cons_succ, i64_w, i32_w]
    rfl
   refine pure_ (i := 4) (N := some 10) (v := ?_) (a' := ?_) #[true, true, true, true, true, false, false, false, false] rfl rfl (any_of HT_.out (by kernel_rfl)) (fun _ _ _ h => h) (Or.inl ⟨by rfl, ?_⟩) ?_ ?_
   rotate_left
   ·
    intro w'
    go_simp
    with_reducible rfl
   rotate_left
   ·
    simp only [Act.put, List.setIfInBounds_toArray, List.set_cons_zero, List.set_cons_succ, i64_w, i32_w]
    rfl
   refine join_ (σ := Value × Nat) 1 #[true, true, true, true, true, true, true, true, false] (fun s_ => [(11, s_.1), (3, .pointer (some ⟨s_.2, 0, none⟩)), (12, .agg #[.int .i64 a0_0, s_.1])]) (fun s_ w' => (w'.cell? ⟨gb101, 0, none⟩ = some (.int .i64 a0_0) ∧ w'.cell? ⟨gb101, 1, none⟩ = some (.slice A0_1 l0_1.length c0_1)) ∧ (Kd.R k33 33 w' w.heap.size (fun _ => True) s_.1 y103) ∧ (w'.heap[gb101]? = some (.cells #[.int .i64 a0_0, .slice A0_1 l0_1.length c0_1] 25 (0, 0))) ∧ (w'.heap[gb102]? = some (.cells #[.int .i64 0, .slice none 0 0] 25 (0, 0))) ∧ (w'.heap[s_.2]? = some (.cells #[.int .i64 0, .slice none 0 0] 25 (0, 0))) ∧ (w.heap.size ≤ s_.2) ∧ (w.heap.size ≤ s_.2) ∧ (gb101 ≠ s_.2) ∧ (s_.2 ≠ gb101) ∧ (gb102 ≠ s_.2) ∧ (s_.2 ≠ gb102) ∧ (Below w.heap.size w w')) ?_ ?_
   rotate_left
   ·
    intro hCont
    refine two_ (i := 5) (j := 7) (Ni := some 11) (Nj := some 3) #[true, true, true, true, true, true, false, false, false] #[true, true, true, true, true, false, false, true, false] rfl rfl rfl rfl (two_of HT_.out (by kernel_rfl)) (by decide) (by decide) (fun K hK => ?_) (fun K hK => ?_)
    ·
     skip
     refine Kd.R_room_step k33 _ 33 (by rfl) (N := 11) rfl 23 _ _ rfl (l0_1.length : Int) rfl rfl Try.underlying23 (.agg #[(.int .i64 0), (.int .i64 0), (.int .i64 0), (.int .i64 0), (.int .i64 0)]) 40 info33 rfl (by omega) (ok := fun _ => True) trivial (ua) (Nat.le_trans (Nat.mul_le_mul_right _ (ua : (l0_1.length : Int).toNat ≤ 7036874417766)) (by omega)) (Below.refl _ _) (Nat.le_refl _) ?_
     intro v104 w7 ho8 hb hg_ hnew_
     clear hg_ hnew_
     (first | rw [← Ny103.out] at ho8 | (simp only [Int.reduceToNat] at ho8; rw [← Ny103.out] at ho8))
     have n0_ := Aside0.mk (Kd.R_lower ho8 (below_size (uB2 HB GE101.out GE102.out)))
     have n1_ := Aside0.mk (blk_below (g := gb101) (o := .cells #[.int .i64 a0_0, .slice A0_1 l0_1.length c0_1] 25 (0, 0)) (ub BK101) hb)
     have n2_ := Aside0.mk (blk_below (g := gb102) (o := .cells #[.int .i64 0, .slice none 0 0] 25 (0, 0)) (ub BK102) hb)
     have n3_ := Aside0.mk (below_step (uB2 HB GE101.out GE102.out) hb)
     clear BK101
     clear BK102
     clear HB
     have HO105 := n0_
     have BK101 := n1_
     have BK102 := n2_
     have HB := n3_
     clear n0_ n1_ n2_ n3_
     clear hb ho8
     obtain ⟨Ao9, co9, eo9⟩ := Kd.R_slice HO105.out
     (first | subst eo9 | (injection eo9 with f1_ f2_ f3_; have f4_ := f1_.symm; have f5_ := f3_.symm; clear f1_ f2_ f3_; subst f4_; subst f5_))
     refine hK.out _ _ ⟨(blk_cell BK101.out 0).trans rfl, (blk_cell BK101.out 1).trans rfl⟩ (fun hHeld => ?_)
     clear hK K
     refine norm_ (a' := ?_) ?_ ?_
     rotate_left
     ·
      show Act.put _ (some 11) _ = _
      simp only [Act.put, List.setIfInBounds_toArray, List.set_cons_zero, List.set_cons_succ, i64_w, i32_w]
      rfl
     refine pure_ (i := 6) (N := some 12) (v := ?_) (a' := ?_) #[true, true, true, true, true, true, true, false, false] rfl rfl (any_of HT_.out (by kernel_rfl)) (fun _ _ _ h => h) (Or.inl ⟨by rfl, ?_⟩) ?_ ?_
     rotate_left
     ·
      intro w'
      go_simp
      with_reducible rfl
     rotate_left
     ·
      simp only [Act.put, List.setIfInBounds_toArray, List.set_cons_zero, List.set_cons_succ, i64_w, i32_w]
      rfl
     refine one_ (i := 7) (N := some 3) #[true, true, true, true, true, true, true, true, false] rfl rfl (one_of HT_.out (by kernel_rfl)) (by decide) (fun K hK => ?_)
     refine box_step ?hg (N := 3) ?hd (cs := #[.int .i64 0, .slice none 0 0]) (t := 25) ?hr ?_; (case hd => rfl); (case hg => rfl); (case hr => first | (go_simp; done) | (go_simp; rfl))
     intro gb106 hg w10 hbox hb
     have n0_ := Aside0.mk (Kd.R_below (ur HO105) hb)
     have n1_ := Aside0.mk (blk_below (g := gb101) (o := .cells #[.int .i64 a0_0, .slice A0_1 l0_1.length c0_1] 25 (0, 0)) (ub BK101) hb)
     have n2_ := Aside0.mk (blk_below (g := gb102) (o := .cells #[.int .i64 0, .slice none 0 0] 25 (0, 0)) (ub BK102) hb)
     have n3_ := Aside0.mk (below_step (uB2 HB GE101.out GE102.out) hb)
     have n4_ := Aside0.mk (hbox)
     have n5_ := Aside0.mk ((by rw [hg]; exact (below_size (uB2 HB GE101.out GE102.out)) : w.heap.size ≤ gb106))
     have n6_ := Aside0.mk ((by rw [hg]; exact (below_size (uB2 HB GE101.out GE102.out)) : w.heap.size ≤ gb106))
     have n7_ := Aside0.mk ((by rw [hg]; exact Nat.ne_of_lt (blk_lt (g := gb101) (o := .cells #[.int .i64 a0_0, .slice A0_1 l0_1.length c0_1] 25 (0, 0)) (ub BK101)) : gb101 ≠ gb106))
     have n8_ := Aside0.mk ((by rw [hg]; exact Nat.ne_of_gt (blk_lt (g := gb101) (o := .cells #[.int .i64 a0_0, .slice A0_1 l0_1.length c0_1] 25 (0, 0)) (ub BK101)) : gb106 ≠ gb101))
     have n9_ := Aside0.mk ((by rw [hg]; exact Nat.ne_of_lt (blk_lt (g := gb102) (o := .cells #[.int .i64 0, .slice none 0 0] 25 (0, 0)) (ub BK102)) : gb102 ≠ gb106))
     have n10_ := Aside0.mk ((by rw [hg]; exact Nat.ne_of_gt (blk_lt (g := gb102) (o := .cells #[.int .i64 0, .slice none 0 0] 25 (0, 0)) (ub BK102)) : gb106 ≠ gb102))
     clear HO105
     clear BK101
     clear BK102
     clear HB
     have HO105 := n0_
     have BK101 := n1_
     have BK102 := n2_
     have HB := n3_
     have BK106 := n4_
     have GW106 := n5_
     have GE106 := n6_
     have NB101_106 := n7_
     have NB106_101 := n8_
     have NB102_106 := n9_
     have NB106_102 := n10_
     clear n0_ n1_ n2_ n3_ n4_ n5_ n6_ n7_ n8_ n9_ n10_
     clear hb hbox hg
     refine hK.out _ _ ⟨(blk_cell BK101.out 0).trans rfl, (blk_cell BK101.out 1).trans rfl⟩ (fun hHeld => ?_)
     clear hK K
     refine norm_ (a' := ?_) ?_ ?_
     rotate_left
     ·
      show Act.put _ (some 3) _ = _
      simp only [Act.put, List.setIfInBounds_toArray, List.set_cons_zero, List.set_cons_succ, i64_w, i32_w]
      rfl
     exact norm_ (by simp only [putAll, Act.put, List.setIfInBounds_toArray, List.set_cons_zero, List.set_cons_succ]) (hCont (.slice Ao9 y103.length co9, gb106) _ ⟨hHeld, (ur HO105), (ub BK101), (ub BK102), (ub BK106), GW106.out, GE106.out, NB101_106.out, NB106_101.out, NB102_106.out, NB106_102.out, (uB3 HB GE101.out GE102.out GE106.out)⟩)
    ·
     skip
     refine box_step ?hg (N := 3) ?hd (cs := #[.int .i64 0, .slice none 0 0]) (t := 25) ?hr ?_; (case hd => rfl); (case hg => rfl); (case hr => first | (go_simp; done) | (go_simp; rfl))
     intro gb106 hg w7 hbox hb
     have n0_ := Aside0.mk (blk_below (g := gb101) (o := .cells #[.int .i64 a0_0, .slice A0_1 l0_1.length c0_1] 25 (0, 0)) (ub BK101) hb)
     have n1_ := Aside0.mk (blk_below (g := gb102) (o := .cells #[.int .i64 0, .slice none 0 0] 25 (0, 0)) (ub BK102) hb)
     have n2_ := Aside0.mk (below_step (uB2 HB GE101.out GE102.out) hb)
     have n3_ := Aside0.mk (hbox)
     have n4_ := Aside0.mk ((by rw [hg]; exact (below_size (uB2 HB GE101.out GE102.out)) : w.heap.size ≤ gb106))
     have n5_ := Aside0.mk ((by rw [hg]; exact (below_size (uB2 HB GE101.out GE102.out)) : w.heap.size ≤ gb106))
     have n6_ := Aside0.mk ((by rw [hg]; exact Nat.ne_of_lt (blk_lt (g := gb101) (o := .cells #[.int .i64 a0_0, .slice A0_1 l0_1.length c0_1] 25 (0, 0)) (ub BK101)) : gb101 ≠ gb106))
     have n7_ := Aside0.mk ((by rw [hg]; exact Nat.ne_of_gt (blk_lt (g := gb101) (o := .cells #[.int .i64 a0_0, .slice A0_1 l0_1.length c0_1] 25 (0, 0)) (ub BK101)) : gb106 ≠ gb101))
     have n8_ := Aside0.mk ((by rw [hg]; exact Nat.ne_of_lt (blk_lt (g := gb102) (o := .cells #[.int .i64 0, .slice none 0 0] 25 (0, 0)) (ub BK102)) : gb102 ≠ gb106))
     have n9_ := Aside0.mk ((by rw [hg]; exact Nat.ne_of_gt (blk_lt (g := gb102) (o := .cells #[.int .i64 0, .slice none 0 0] 25 (0, 0)) (ub BK102)) : gb106 ≠ gb102))
     clear BK101
     clear BK102
     clear HB
     have BK101 := n0_
     have BK102 := n1_
     have HB := n2_
     have BK106 := n3_
     have GW106 := n4_
     have GE106 := n5_
     have NB101_106 := n6_
     have NB106_101 := n7_
     have NB102_106 := n8_
     have NB106_102 := n9_
     clear n0_ n1_ n2_ n3_ n4_ n5_ n6_ n7_ n8_ n9_
     clear hb hbox hg
     refine hK.out _ _ ⟨(blk_cell BK101.out 0).trans rfl, (blk_cell BK101.out 1).trans rfl⟩ (fun hHeld => ?_)
     clear hK K
     refine norm_ (a' := ?_) ?_ ?_
     rotate_left
     ·
      show Act.put _ (some 3) _ = _
      simp only [Act.put, List.setIfInBounds_toArray, List.set_cons_zero, List.set_cons_succ, i64_w, i32_w]
      rfl
     refine one_ (i := 5) (N := some 11) #[true, true, true, true, true, true, false, true, false] rfl rfl (one_of HT_.out (by kernel_rfl)) (by decide) (fun K hK => ?_)
     refine Kd.R_room_step k33 _ 33 (by rfl) (N := 11) rfl 23 _ _ rfl (l0_1.length : Int) rfl rfl Try.underlying23 (.agg #[(.int .i64 0), (.int .i64 0), (.int .i64 0), (.int .i64 0), (.int .i64 0)]) 40 info33 rfl (by omega) (ok := fun _ => True) trivial (ua) (Nat.le_trans (Nat.mul_le_mul_right _ (ua : (l0_1.length : Int).toNat ≤ 7036874417766)) (by omega)) (Below.refl _ _) (Nat.le_refl _) ?_
     intro v104 w8 ho9 hb hg_ hnew_
     clear hg_ hnew_
     (first | rw [← Ny103.out] at ho9 | (simp only [Int.reduceToNat] at ho9; rw [← Ny103.out] at ho9))
     have n0_ := Aside0.mk (Kd.R_lower ho9 (below_size (uB3 HB GE101.out GE102.out GE106.out)))
     have n1_ := Aside0.mk (blk_below (g := gb101) (o := .cells #[.int .i64 a0_0, .slice A0_1 l0_1.length c0_1] 25 (0, 0)) (ub BK101) hb)
     have n2_ := Aside0.mk (blk_below (g := gb102) (o := .cells #[.int .i64 0, .slice none 0 0] 25 (0, 0)) (ub BK102) hb)
     have n3_ := Aside0.mk (blk_below (g := gb106) (o := .cells #[.int .i64 0, .slice none 0 0] 25 (0, 0)) (ub BK106) hb)
     have n4_ := Aside0.mk (below_step (uB3 HB GE101.out GE102.out GE106.out) hb)
     clear BK101
     clear BK102
     clear BK106
     clear HB
     have HO105 := n0_
     have BK101 := n1_
     have BK102 := n2_
     have BK106 := n3_
     have HB := n4_
     clear n0_ n1_ n2_ n3_ n4_
     clear hb ho9
     obtain ⟨Ao10, co10, eo10⟩ := Kd.R_slice HO105.out
     (first | subst eo10 | (injection eo10 with f1_ f2_ f3_; have f4_ := f1_.symm; have f5_ := f3_.symm; clear f1_ f2_ f3_; subst f4_; subst f5_))
     refine hK.out _ _ ⟨(blk_cell BK101.out 0).trans rfl, (blk_cell BK101.out 1).trans rfl⟩ (fun hHeld => ?_)
     clear hK K
     refine norm_ (a' := ?_) ?_ ?_
     rotate_left
     ·
      show Act.put _ (some 11) _ = _
      simp only [Act.put, List.setIfInBounds_toArray, List.set_cons_zero, List.set_cons_succ, i64_w, i32_w]
      rfl
     refine pure_ (i := 6) (N := some 12) (v := ?_) (a' := ?_) #[true, true, true, true, true, true, true, true, false] rfl rfl (any_of HT_.out (by kernel_rfl)) (fun _ _ _ h => h) (Or.inl ⟨by rfl, ?_⟩) ?_ ?_
     rotate_left
     ·
      intro w'
      go_simp
      with_reducible rfl
     rotate_left
     ·
      simp only [Act.put, List.setIfInBounds_toArray, List.set_cons_zero, List.set_cons_succ, i64_w, i32_w]
      rfl
     exact norm_ (by simp only [putAll, Act.put, List.setIfInBounds_toArray, List.set_cons_zero, List.set_cons_succ]) (hCont (.slice Ao10 y103.length co10, gb106) _ ⟨hHeld, (ur HO105), (ub BK101), (ub BK102), (ub BK106), GW106.out, GE106.out, NB101_106.out, NB106_101.out, NB102_106.out, NB106_102.out, (uB3 HB GE101.out GE102.out GE106.out)⟩)
   rintro ⟨v104, gb106⟩ w11 ⟨hS_, h0_, h1_, h2_, h3_, h4_, h5_, h6_, h7_, h8_, h9_, h10_⟩
   have n0_ : Aside0 (Kd.R k33 33 w11 w.heap.size (fun _ => True) v104 y103) := ⟨h0_⟩
   have n1_ : Aside0 (w11.heap[gb101]? = some (.cells #[.int .i64 a0_0, .slice A0_1 l0_1.length c0_1] 25 (0, 0))) := ⟨h1_⟩
   have n2_ : Aside0 (w11.heap[gb102]? = some (.cells #[.int .i64 0, .slice none 0 0] 25 (0, 0))) := ⟨h2_⟩
   have n3_ : Aside0 (w11.heap[gb106]? = some (.cells #[.int .i64 0, .slice none 0 0] 25 (0, 0))) := ⟨h3_⟩
   have n4_ : Aside0 (w.heap.size ≤ gb106) := ⟨h4_⟩
   have n5_ : Aside0 (w.heap.size ≤ gb106) := ⟨h5_⟩
   have n6_ : Aside0 (gb101 ≠ gb106) := ⟨h6_⟩
   have n7_ : Aside0 (gb106 ≠ gb101) := ⟨h7_⟩
   have n8_ : Aside0 (gb102 ≠ gb106) := ⟨h8_⟩
   have n9_ : Aside0 (gb106 ≠ gb102) := ⟨h9_⟩
   have n10_ : Aside0 (Below w.heap.size w w11) := ⟨h10_⟩
   clear BK101
   clear BK102
   clear HB
   clear h0_ h1_ h2_ h3_ h4_ h5_ h6_ h7_ h8_ h9_ h10_
   have HO105 := n0_
   have BK101 := n1_
   have BK102 := n2_
   have BK106 := n3_
   have GW106 := n4_
   have GE106 := n5_
   have NB101_106 := n6_
   have NB106_101 := n7_
   have NB102_106 := n8_
   have NB106_102 := n9_
   have HB := n10_
   clear n0_ n1_ n2_ n3_ n4_ n5_ n6_ n7_ n8_ n9_ n10_
   have hHeld : w11.cell? ⟨gb101, 0, none⟩ = some (.int .i64 a0_0) ∧ w11.cell? ⟨gb101, 1, none⟩ = some (.slice A0_1 l0_1.length c0_1) := hS_
   obtain ⟨Ao12, co12, eo12⟩ := Kd.R_slice HO105.out
   (first | subst eo12 | (injection eo12 with f1_ f2_ f3_; have f4_ := f1_.symm; have f5_ := f3_.symm; clear f1_ f2_ f3_; subst f4_; subst f5_))
   refine norm_ (a' := ?_) ?_ ?_
   rotate_left
   ·
    simp only [putAll, Act.put, List.setIfInBounds_toArray, List.set_cons_zero, List.set_cons_succ]
    rfl
   refine one_ (i := 8) (N := none) #[true, true, true, true, true, true, true, true, true] rfl rfl (one_of HT_.out (by kernel_rfl)) (by decide) (fun K hK => ?_)
   have hs13 : w11.cell? ⟨gb106, 0, none⟩ = some (.int .i64 0) := (blk_cell BK106.out 0).trans rfl
   have hfs13 := blk_frozen BK106.out 0
   have hns13_0 := NB101_106.out
   have hns13_1 := NB102_106.out
   have hms13_0 := NB106_101.out
   have hms13_1 := NB106_102.out
   have hs14 : w11.cell? ⟨gb106, 1, none⟩ = some (.slice none 0 0) := (blk_cell BK106.out 1).trans rfl
   have hfs14 := blk_frozen BK106.out 1
   have hns14_0 := NB101_106.out
   have hns14_1 := NB102_106.out
   have hms14_0 := NB106_101.out
   have hms14_1 := NB106_102.out
   refine skip_ (w1 := ?_) (by rfl) rfl ?_ ?_
   rotate_left
   ·
    go_simp
    rfl
   refine hK.out _ _ ⟨((cell_far (p := ⟨gb106, _, none⟩) NB101_106.out _).trans (((cell_far (p := ⟨gb106, _, none⟩) NB101_106.out _).trans (hHeld.1)))), ((cell_far (p := ⟨gb106, _, none⟩) NB101_106.out _).trans (((cell_far (p := ⟨gb106, _, none⟩) NB101_106.out _).trans (hHeld.2))))⟩ (fun hHeld => ?_)
   clear hK K
   refine done_ (done_of HT_.out (by kernel_rfl)) ?_
   have hnb15 := NB101_102.out
   have hnc15 := NB102_101.out
   have hnb16 := NB101_106.out
   have hnc16 := NB106_101.out
   have hcz17_0 : w11.cell? ⟨gb101, 0, none⟩ = some (.int .i64 a0_0) := (blk_cell BK101.out 0).trans rfl
   have hcz17_1 : w11.cell? ⟨gb101, 1, none⟩ = some (.slice A0_1 l0_1.length c0_1) := (blk_cell BK101.out 1).trans rfl
   have hfz17_0 := blk_frozen BK101.out 0
   have hfz17_1 := blk_frozen BK101.out 1
   try go_wp2
   go_loopg [16] k (fun kq v16 w' => ∃ (x16_1 : Int) (x107001_1 : List (S33)) (u107001 : Value), v16 = .int .i64 x16_1 ∧ Aside0 (impl_Net_back.l0 kq l0_1 (l0_1.length : Int) x16_1 a0_0 x107001_1 = some (r1, r2)) ∧ Aside0 (kq ≤ k) ∧ Aside0 (Kd.R k33 33 w' w.heap.size (fun _ => True) u107001 x107001_1) ∧ Aside0 (w'.heap[gb101]? = some (.cells #[.int .i64 a0_0, (.slice A0_1 l0_1.length c0_1)] 25 (0, 0))) ∧ Aside0 (w'.heap[gb102]? = some (.cells #[.int .i64 0, (.slice none 0 0)] 25 (0, 0))) ∧ Aside0 (w'.heap[gb106]? = some (.cells #[.int .i64 a0_0, u107001] 25 (0, 0))) ∧ Aside0 (Below w.heap.size w w'))
   case atStart => exact ⟨(0), (y103), (.slice Ao12 y103.length co12), ue, H', ⟨Nat.le_refl _⟩, ⟨by (with_reducible repeat (first | apply Kd.R_alloc | apply Kd.R_drewN | apply Kd.R_drew)); exact Kd.R_mono (Kd.R_far (p := ⟨gb106, 1, none⟩) (Kd.R_far (p := ⟨gb106, 0, none⟩) (Kd.R_types HO105.out BK106.out (by decide)) (fun _ hk => hk.2) (.int .i64 a0_0)) (fun _ hk => hk.2) (.slice Ao12 y103.length co12)) (fun _ hk => trivial)⟩, ⟨by (with_reducible repeat (first | refine blk_drewN ?_ _ | refine blk_drew ?_ | refine blk_alloc ?_ _)); refine blk_far ?_ NB101_106.out _; (with_reducible repeat (first | refine blk_drewN ?_ _ | refine blk_drew ?_ | refine blk_alloc ?_ _)); refine blk_far ?_ NB101_106.out _; exact ub BK101⟩, ⟨by (with_reducible repeat (first | refine blk_drewN ?_ _ | refine blk_drew ?_ | refine blk_alloc ?_ _)); refine blk_far ?_ NB102_106.out _; (with_reducible repeat (first | refine blk_drewN ?_ _ | refine blk_drew ?_ | refine blk_alloc ?_ _)); refine blk_far ?_ NB102_106.out _; exact ub BK102⟩, ⟨by (with_reducible repeat (first | refine blk_drewN ?_ _ | refine blk_drew ?_ | refine blk_alloc ?_ _)); refine blk_put (cs := #[.int .i64 a0_0, .slice none 0 0]) ?_ 1 _ rfl; (with_reducible repeat (first | refine blk_drewN ?_ _ | refine blk_drew ?_ | refine blk_alloc ?_ _)); refine blk_put (cs := #[.int .i64 0, .slice none 0 0]) ?_ 0 _ rfl; exact ub BK106⟩, ⟨uB3 HB GE101.out GE102.out GE106.out⟩⟩
   case round =>
    clear H'
    try clear c1
    try clear c2
    try clear c2b0
    try clear c2b1
    try clear p2
    try clear c3
    try clear c3b0
    try clear c3b1
    try clear c11
    try clear c15
    try clear c16
    try clear hcz17_0
    try clear hcz17_1
    try clear hfz17_0
    try clear hfz17_1
    obtain ⟨x16_1, x107001_1, u107001, rfl, HA, HK1, HO_107001, BK101, BK102, BK106, HB⟩ := hrel
    cases gk with
    | zero => exact absurd HA.out (by simp [impl_Net_back.l0])
    | succ k1 =>
     have H := HA.out
     clear HA
     simp only [impl_Net_back.l0] at H
     by_cases c18 : x16_1 < (l0_1.length : Int)
     ·
      rw [if_pos c18] at H
      have c18b0 : decide (x16_1 < (l0_1.length : Int)) = true := decide_eq_true c18
      clear c18
      by_cases c19 : 0 ≤ x16_1
      ·
       rw [if_pos c19] at H
       have c19b0 : decide (0 ≤ x16_1) = true := decide_eq_true c19
       clear c19
       by_cases c20 : x16_1 < (l0_1.length : Int)
       ·
        rw [if_pos c20] at H
        have c20b0 : decide (x16_1 < (l0_1.length : Int)) = true := decide_eq_true c20
        clear c20
        by_cases c21 : x107001_1.length < 3518437208883
        ·
         rw [if_pos c21] at H
         have LMc21 := Aside0.mk c21
         clear c21
         obtain ⟨y109, hy109⟩ : ∃ y_ : List (S33), y_ = (x107001_1 ++ [(⟨(rd_T33 l0_1 x16_1).f1, (rd_T33 l0_1 x16_1).f0, (rd_T33 l0_1 x16_1).f2, (rd_T33 l0_1 x16_1).f3, (rd_T33 l0_1 x16_1).f4⟩ : S33)]) := ⟨_, rfl⟩
         replace H : (impl_Net_back.l0 k1 l0_1 (l0_1.length : Int) (wrap64 (x16_1 + 1)) a0_0 y109) = some (r1, r2) := by first | (rw [hy109]; with_reducible exact H) | (have H2_ := (Option.bind_some _ _).symm.trans H; rw [hy109]; with_reducible exact H2_) | (have H2_ := (Option.bind_some _ _).symm.trans H; with_reducible exact H2_) | with_reducible exact H | (rw [hy109]; exact H) | exact H
         have Ny109 := Aside0.mk hy109
         clear hy109
         have H' := Aside0.mk H
         clear H
         have p107 : 0 ≤ (x16_1 : Int) := ua
         have q107 : x16_1 < (l0_1.length : Int) := ua
         obtain ⟨ad107, e107, hx107_0, hx107_1, hx107_2, hx107_3, hx107_4⟩ := at_T33 HR0_1.out x16_1 p107 q107
         cases e107
         replace hx107_0 := (HB.out.cell (World.block_lt_of_cell? w _ hx107_0)).trans hx107_0
         replace hx107_1 := (HB.out.cell (World.block_lt_of_cell? w _ hx107_1)).trans hx107_1
         replace hx107_2 := (HB.out.cell (World.block_lt_of_cell? w _ hx107_2)).trans hx107_2
         replace hx107_3 := (HB.out.cell (World.block_lt_of_cell? w _ hx107_3)).trans hx107_3
         replace hx107_4 := (HB.out.cell (World.block_lt_of_cell? w _ hx107_4)).trans hx107_4
         replace p107 := eq_true p107
         replace q107 := eq_true q107
         go_upto_region 5 with (first | ((with_reducible refine gate_dst (N := 5) rfl ?_); refine box_event ?hg (N := 5) ?hd (cs := #[.int .i64 0, .int .i64 0, .int .i64 0, .int .i64 0, .int .i64 0]) (t := 33) ?hr ?_; (case hd => rfl); (case hg => rfl); (case hr => first | (go_simp; done) | (go_simp; rfl)); intro gb108 hg w22 hbox hb; have n0_ := Aside0.mk (Kd.R_below (Kd.R_elderB (ur HO_107001) gb108 (Nat.le_of_eq hg.symm)) hb); have n1_ := Aside0.mk (blk_below (g := gb101) (o := .cells #[.int .i64 a0_0, .slice (some ad107) l0_1.length c0_1] 25 (0, 0)) (ub BK101) hb); have n2_ := Aside0.mk (blk_below (g := gb102) (o := .cells #[.int .i64 0, .slice none 0 0] 25 (0, 0)) (ub BK102) hb); have n3_ := Aside0.mk (blk_below (g := gb106) (o := .cells #[.int .i64 a0_0, u107001] 25 (0, 0)) (ub BK106) hb); have n4_ := Aside0.mk (below_step (uB3 HB GE101.out GE102.out GE106.out) hb); have n5_ := Aside0.mk (hbox); have n6_ := Aside0.mk ((by rw [hg]; exact (below_size (uB3 HB GE101.out GE102.out GE106.out)) : w.heap.size ≤ gb108)); have n7_ := Aside0.mk ((by rw [hg]; exact (below_size (uB3 HB GE101.out GE102.out GE106.out)) : w.heap.size ≤ gb108)); have n8_ := Aside0.mk ((by rw [hg]; exact Nat.ne_of_lt (blk_lt (g := gb101) (o := .cells #[.int .i64 a0_0, .slice (some ad107) l0_1.length c0_1] 25 (0, 0)) (ub BK101)) : gb101 ≠ gb108)); have n9_ := Aside0.mk ((by rw [hg]; exact Nat.ne_of_gt (blk_lt (g := gb101) (o := .cells #[.int .i64 a0_0, .slice (some ad107) l0_1.length c0_1] 25 (0, 0)) (ub BK101)) : gb108 ≠ gb101)); have n10_ := Aside0.mk ((by rw [hg]; exact Nat.ne_of_lt (blk_lt (g := gb102) (o := .cells #[.int .i64 0, .slice none 0 0] 25 (0, 0)) (ub BK102)) : gb102 ≠ gb108)); have n11_ := Aside0.mk ((by rw [hg]; exact Nat.ne_of_gt (blk_lt (g := gb102) (o := .cells #[.int .i64 0, .slice none 0 0] 25 (0, 0)) (ub BK102)) : gb108 ≠ gb102)); have n12_ := Aside0.mk ((by rw [hg]; exact Nat.ne_of_lt (blk_lt (g := gb106) (o := .cells #[.int .i64 a0_0, u107001] 25 (0, 0)) (ub BK106)) : gb106 ≠ gb108)); have n13_ := Aside0.mk ((by rw [hg]; exact Nat.ne_of_gt (blk_lt (g := gb106) (o := .cells #[.int .i64 a0_0, u107001] 25 (0, 0)) (ub BK106)) : gb108 ≠ gb106)); clear HO_107001; clear BK101; clear BK102; clear BK106; clear HB; have HO_107001 := n0_; have BK101 := n1_; have BK102 := n2_; have BK106 := n3_; have HB := n4_; have BK108 := n5_; have GW108 := n6_; have GE108 := n7_; have NB101_108 := n8_; have NB108_101 := n9_; have NB102_108 := n10_; have NB108_102 := n11_; have NB106_108 := n12_; have NB108_106 := n13_; clear n0_ n1_ n2_ n3_ n4_ n5_ n6_ n7_ n8_ n9_ n10_ n11_ n12_ n13_; clear hb hbox hg; have hnb23 := NB108_101.out; have hnc23 := NB101_108.out; have hnb24 := NB108_102.out; have hnc24 := NB102_108.out; have hnb25 := NB108_106.out; have hnc25 := NB106_108.out; have hcz26_0 : w22.cell? ⟨gb108, 0, none⟩ = some (.int .i64 0) := (blk_cell BK108.out 0).trans rfl; have hcz26_1 : w22.cell? ⟨gb108, 1, none⟩ = some (.int .i64 0) := (blk_cell BK108.out 1).trans rfl; have hcz26_2 : w22.cell? ⟨gb108, 2, none⟩ = some (.int .i64 0) := (blk_cell BK108.out 2).trans rfl; have hcz26_3 : w22.cell? ⟨gb108, 3, none⟩ = some (.int .i64 0) := (blk_cell BK108.out 3).trans rfl; have hcz26_4 : w22.cell? ⟨gb108, 4, none⟩ = some (.int .i64 0) := (blk_cell BK108.out 4).trans rfl; have hfz26_0 := blk_frozen BK108.out 0; have hfz26_1 := blk_frozen BK108.out 1; have hfz26_2 := blk_frozen BK108.out 2; have hfz26_3 := blk_frozen BK108.out 3; have hfz26_4 := blk_frozen BK108.out 4; have hnb27 := NB106_101.out; have hnc27 := NB101_106.out; have hnb28 := NB106_102.out; have hnc28 := NB102_106.out; have hcz29_0 : w22.cell? ⟨gb106, 0, none⟩ = some (.int .i64 a0_0) := (blk_cell BK106.out 0).trans rfl; have hcz29_1 : w22.cell? ⟨gb106, 1, none⟩ = some (u107001) := (blk_cell BK106.out 1).trans rfl; have hfz29_0 := blk_frozen BK106.out 0; have hfz29_1 := blk_frozen BK106.out 1))
         have n0_ : Aside0 (Kd.R k33 33 (((((w22.setCell ⟨gb108, 0, none⟩ (Value.int .i64 (rd_T33 l0_1 x16_1).f0)).setCell ⟨gb108, 1, none⟩ (Value.int .i64 (rd_T33 l0_1 x16_1).f1)).setCell ⟨gb108, 2, none⟩ (Value.int .i64 (rd_T33 l0_1 x16_1).f2)).setCell ⟨gb108, 3, none⟩ (Value.int .i64 (rd_T33 l0_1 x16_1).f3)).setCell ⟨gb108, 4, none⟩ (Value.int .i64 (rd_T33 l0_1 x16_1).f4)) w.heap.size (fun k_ => True ∧ k_ ≠ gb108) u107001 x107001_1) := ⟨Kd.R_far (p := ⟨gb108, 4, none⟩) (Kd.R_far (p := ⟨gb108, 3, none⟩) (Kd.R_far (p := ⟨gb108, 2, none⟩) (Kd.R_far (p := ⟨gb108, 1, none⟩) (Kd.R_far (p := ⟨gb108, 0, none⟩) (HO_107001.out) (fun _ hk => hk.2) _) (fun _ hk => hk.2) _) (fun _ hk => hk.2) _) (fun _ hk => hk.2) _) (fun _ hk => hk.2) _⟩
         have n1_ : Aside0 ((((((w22.setCell ⟨gb108, 0, none⟩ (Value.int .i64 (rd_T33 l0_1 x16_1).f0)).setCell ⟨gb108, 1, none⟩ (Value.int .i64 (rd_T33 l0_1 x16_1).f1)).setCell ⟨gb108, 2, none⟩ (Value.int .i64 (rd_T33 l0_1 x16_1).f2)).setCell ⟨gb108, 3, none⟩ (Value.int .i64 (rd_T33 l0_1 x16_1).f3)).setCell ⟨gb108, 4, none⟩ (Value.int .i64 (rd_T33 l0_1 x16_1).f4)).heap[gb101]? = some (.cells #[.int .i64 a0_0, .slice (some ad107) l0_1.length c0_1] 25 (0, 0))) := ⟨blk_far (blk_far (blk_far (blk_far (blk_far (BK101.out) NB101_108.out _) NB101_108.out _) NB101_108.out _) NB101_108.out _) NB101_108.out _⟩
         have n2_ : Aside0 ((((((w22.setCell ⟨gb108, 0, none⟩ (Value.int .i64 (rd_T33 l0_1 x16_1).f0)).setCell ⟨gb108, 1, none⟩ (Value.int .i64 (rd_T33 l0_1 x16_1).f1)).setCell ⟨gb108, 2, none⟩ (Value.int .i64 (rd_T33 l0_1 x16_1).f2)).setCell ⟨gb108, 3, none⟩ (Value.int .i64 (rd_T33 l0_1 x16_1).f3)).setCell ⟨gb108, 4, none⟩ (Value.int .i64 (rd_T33 l0_1 x16_1).f4)).heap[gb102]? = some (.cells #[.int .i64 0, .slice none 0 0] 25 (0, 0))) := ⟨blk_far (blk_far (blk_far (blk_far (blk_far (BK102.out) NB102_108.out _) NB102_108.out _) NB102_108.out _) NB102_108.out _) NB102_108.out _⟩
         have n3_ : Aside0 ((((((w22.setCell ⟨gb108, 0, none⟩ (Value.int .i64 (rd_T33 l0_1 x16_1).f0)).setCell ⟨gb108, 1, none⟩ (Value.int .i64 (rd_T33 l0_1 x16_1).f1)).setCell ⟨gb108, 2, none⟩ (Value.int .i64 (rd_T33 l0_1 x16_1).f2)).setCell ⟨gb108, 3, none⟩ (Value.int .i64 (rd_T33 l0_1 x16_1).f3)).setCell ⟨gb108, 4, none⟩ (Value.int .i64 (rd_T33 l0_1 x16_1).f4)).heap[gb106]? = some (.cells #[.int .i64 a0_0, u107001] 25 (0, 0))) := ⟨blk_far (blk_far (blk_far (blk_far (blk_far (BK106.out) NB106_108.out _) NB106_108.out _) NB106_108.out _) NB106_108.out _) NB106_108.out _⟩
         have n4_ : Aside0 ((((((w22.setCell ⟨gb108, 0, none⟩ (Value.int .i64 (rd_T33 l0_1 x16_1).f0)).setCell ⟨gb108, 1, none⟩ (Value.int .i64 (rd_T33 l0_1 x16_1).f1)).setCell ⟨gb108, 2, none⟩ (Value.int .i64 (rd_T33 l0_1 x16_1).f2)).setCell ⟨gb108, 3, none⟩ (Value.int .i64 (rd_T33 l0_1 x16_1).f3)).setCell ⟨gb108, 4, none⟩ (Value.int .i64 (rd_T33 l0_1 x16_1).f4)).heap[gb108]? = some (.cells #[.int .i64 ((rd_T33 l0_1 x16_1).f0), .int .i64 ((rd_T33 l0_1 x16_1).f1), .int .i64 ((rd_T33 l0_1 x16_1).f2), .int .i64 ((rd_T33 l0_1 x16_1).f3), .int .i64 ((rd_T33 l0_1 x16_1).f4)] 33 (0, 0))) := ⟨blk_put (cs := #[.int .i64 ((rd_T33 l0_1 x16_1).f0), .int .i64 ((rd_T33 l0_1 x16_1).f1), .int .i64 ((rd_T33 l0_1 x16_1).f2), .int .i64 ((rd_T33 l0_1 x16_1).f3), .int .i64 0]) (blk_put (cs := #[.int .i64 ((rd_T33 l0_1 x16_1).f0), .int .i64 ((rd_T33 l0_1 x16_1).f1), .int .i64 ((rd_T33 l0_1 x16_1).f2), .int .i64 0, .int .i64 0]) (blk_put (cs := #[.int .i64 ((rd_T33 l0_1 x16_1).f0), .int .i64 ((rd_T33 l0_1 x16_1).f1), .int .i64 0, .int .i64 0, .int .i64 0]) (blk_put (cs := #[.int .i64 ((rd_T33 l0_1 x16_1).f0), .int .i64 0, .int .i64 0, .int .i64 0, .int .i64 0]) (blk_put (cs := #[.int .i64 0, .int .i64 0, .int .i64 0, .int .i64 0, .int .i64 0]) (BK108.out) 0 _ rfl) 1 _ rfl) 2 _ rfl) 3 _ rfl) 4 _ rfl⟩
         have n5_ : Aside0 (Below w.heap.size w (((((w22.setCell ⟨gb108, 0, none⟩ (Value.int .i64 (rd_T33 l0_1 x16_1).f0)).setCell ⟨gb108, 1, none⟩ (Value.int .i64 (rd_T33 l0_1 x16_1).f1)).setCell ⟨gb108, 2, none⟩ (Value.int .i64 (rd_T33 l0_1 x16_1).f2)).setCell ⟨gb108, 3, none⟩ (Value.int .i64 (rd_T33 l0_1 x16_1).f3)).setCell ⟨gb108, 4, none⟩ (Value.int .i64 (rd_T33 l0_1 x16_1).f4))) := ⟨below_set (below_set (below_set (below_set (below_set (HB.out) GE108.out) GE108.out) GE108.out) GE108.out) GE108.out⟩
         generalize (((((w22.setCell ⟨gb108, 0, none⟩ (Value.int .i64 (rd_T33 l0_1 x16_1).f0)).setCell ⟨gb108, 1, none⟩ (Value.int .i64 (rd_T33 l0_1 x16_1).f1)).setCell ⟨gb108, 2, none⟩ (Value.int .i64 (rd_T33 l0_1 x16_1).f2)).setCell ⟨gb108, 3, none⟩ (Value.int .i64 (rd_T33 l0_1 x16_1).f3)).setCell ⟨gb108, 4, none⟩ (Value.int .i64 (rd_T33 l0_1 x16_1).f4)) = wL1_ at n0_ n1_ n2_ n3_ n4_ n5_ ⊢
         have HO_107001 := n0_
         have BK101 := n1_
         have BK102 := n2_
         have BK106 := n3_
         have BK108 := n4_
         have HB := n5_
         clear n0_ n1_ n2_ n3_ n4_ n5_
         clear hcz26_0 hcz26_1 hcz26_2 hcz26_3 hcz26_4 hcz29_0 hcz29_1 hfz26_0 hfz26_1 hfz26_2 hfz26_3 hfz26_4 hfz29_0 hfz29_1
         have hczLa_0 : wL1_.cell? ⟨gb108, 0, none⟩ = some (.int .i64 ((rd_T33 l0_1 x16_1).f0)) := (blk_cell BK108.out 0).trans rfl
         have hczLa_1 : wL1_.cell? ⟨gb108, 1, none⟩ = some (.int .i64 ((rd_T33 l0_1 x16_1).f1)) := (blk_cell BK108.out 1).trans rfl
         have hczLa_2 : wL1_.cell? ⟨gb108, 2, none⟩ = some (.int .i64 ((rd_T33 l0_1 x16_1).f2)) := (blk_cell BK108.out 2).trans rfl
         have hczLa_3 : wL1_.cell? ⟨gb108, 3, none⟩ = some (.int .i64 ((rd_T33 l0_1 x16_1).f3)) := (blk_cell BK108.out 3).trans rfl
         have hczLa_4 : wL1_.cell? ⟨gb108, 4, none⟩ = some (.int .i64 ((rd_T33 l0_1 x16_1).f4)) := (blk_cell BK108.out 4).trans rfl
         have hfzLa_0 := blk_frozen BK108.out 0
         have hfzLa_1 := blk_frozen BK108.out 1
         have hfzLa_2 := blk_frozen BK108.out 2
         have hfzLa_3 := blk_frozen BK108.out 3
         have hfzLa_4 := blk_frozen BK108.out 4
         go_upto_region 6 with (fail)
         have n0_ : Aside0 (Kd.R k33 33 ((wL1_.setCell ⟨gb108, 0, none⟩ (Value.int .i64 (rd_T33 l0_1 x16_1).f1)).setCell ⟨gb108, 1, none⟩ (Value.int .i64 (rd_T33 l0_1 x16_1).f0)) w.heap.size (fun k_ => True ∧ k_ ≠ gb108) u107001 x107001_1) := ⟨Kd.R_far (p := ⟨gb108, 1, none⟩) (Kd.R_far (p := ⟨gb108, 0, none⟩) (HO_107001.out) (fun _ hk => hk.2) _) (fun _ hk => hk.2) _⟩
         have n1_ : Aside0 (((wL1_.setCell ⟨gb108, 0, none⟩ (Value.int .i64 (rd_T33 l0_1 x16_1).f1)).setCell ⟨gb108, 1, none⟩ (Value.int .i64 (rd_T33 l0_1 x16_1).f0)).heap[gb101]? = some (.cells #[.int .i64 a0_0, .slice (some ad107) l0_1.length c0_1] 25 (0, 0))) := ⟨blk_far (blk_far (BK101.out) NB101_108.out _) NB101_108.out _⟩
         have n2_ : Aside0 (((wL1_.setCell ⟨gb108, 0, none⟩ (Value.int .i64 (rd_T33 l0_1 x16_1).f1)).setCell ⟨gb108, 1, none⟩ (Value.int .i64 (rd_T33 l0_1 x16_1).f0)).heap[gb102]? = some (.cells #[.int .i64 0, .slice none 0 0] 25 (0, 0))) := ⟨blk_far (blk_far (BK102.out) NB102_108.out _) NB102_108.out _⟩
         have n3_ : Aside0 (((wL1_.setCell ⟨gb108, 0, none⟩ (Value.int .i64 (rd_T33 l0_1 x16_1).f1)).setCell ⟨gb108, 1, none⟩ (Value.int .i64 (rd_T33 l0_1 x16_1).f0)).heap[gb106]? = some (.cells #[.int .i64 a0_0, u107001] 25 (0, 0))) := ⟨blk_far (blk_far (BK106.out) NB106_108.out _) NB106_108.out _⟩
         have n4_ : Aside0 (((wL1_.setCell ⟨gb108, 0, none⟩ (Value.int .i64 (rd_T33 l0_1 x16_1).f1)).setCell ⟨gb108, 1, none⟩ (Value.int .i64 (rd_T33 l0_1 x16_1).f0)).heap[gb108]? = some (.cells #[.int .i64 ((rd_T33 l0_1 x16_1).f1), .int .i64 ((rd_T33 l0_1 x16_1).f0), .int .i64 ((rd_T33 l0_1 x16_1).f2), .int .i64 ((rd_T33 l0_1 x16_1).f3), .int .i64 ((rd_T33 l0_1 x16_1).f4)] 33 (0, 0))) := ⟨blk_put (cs := #[.int .i64 ((rd_T33 l0_1 x16_1).f1), .int .i64 ((rd_T33 l0_1 x16_1).f1), .int .i64 ((rd_T33 l0_1 x16_1).f2), .int .i64 ((rd_T33 l0_1 x16_1).f3), .int .i64 ((rd_T33 l0_1 x16_1).f4)]) (blk_put (cs := #[.int .i64 ((rd_T33 l0_1 x16_1).f0), .int .i64 ((rd_T33 l0_1 x16_1).f1), .int .i64 ((rd_T33 l0_1 x16_1).f2), .int .i64 ((rd_T33 l0_1 x16_1).f3), .int .i64 ((rd_T33 l0_1 x16_1).f4)]) (BK108.out) 0 _ rfl) 1 _ rfl⟩
         have n5_ : Aside0 (Below w.heap.size w ((wL1_.setCell ⟨gb108, 0, none⟩ (Value.int .i64 (rd_T33 l0_1 x16_1).f1)).setCell ⟨gb108, 1, none⟩ (Value.int .i64 (rd_T33 l0_1 x16_1).f0))) := ⟨below_set (below_set (HB.out) GE108.out) GE108.out⟩
         generalize ((wL1_.setCell ⟨gb108, 0, none⟩ (Value.int .i64 (rd_T33 l0_1 x16_1).f1)).setCell ⟨gb108, 1, none⟩ (Value.int .i64 (rd_T33 l0_1 x16_1).f0)) = wL2_ at n0_ n1_ n2_ n3_ n4_ n5_ ⊢
         have HO_107001 := n0_
         have BK101 := n1_
         have BK102 := n2_
         have BK106 := n3_
         have BK108 := n4_
         have HB := n5_
         clear n0_ n1_ n2_ n3_ n4_ n5_
         clear hczLa_0 hfzLa_0 hczLa_1 hfzLa_1 hczLa_2 hfzLa_2 hczLa_3 hfzLa_3 hczLa_4 hfzLa_4
         have hczLb_0 : wL2_.cell? ⟨gb108, 0, none⟩ = some (.int .i64 ((rd_T33 l0_1 x16_1).f1)) := (blk_cell BK108.out 0).trans rfl
         have hczLb_1 : wL2_.cell? ⟨gb108, 1, none⟩ = some (.int .i64 ((rd_T33 l0_1 x16_1).f0)) := (blk_cell BK108.out 1).trans rfl
         have hczLb_2 : wL2_.cell? ⟨gb108, 2, none⟩ = some (.int .i64 ((rd_T33 l0_1 x16_1).f2)) := (blk_cell BK108.out 2).trans rfl
         have hczLb_3 : wL2_.cell? ⟨gb108, 3, none⟩ = some (.int .i64 ((rd_T33 l0_1 x16_1).f3)) := (blk_cell BK108.out 3).trans rfl
         have hczLb_4 : wL2_.cell? ⟨gb108, 4, none⟩ = some (.int .i64 ((rd_T33 l0_1 x16_1).f4)) := (blk_cell BK108.out 4).trans rfl
         have hfzLb_0 := blk_frozen BK108.out 0
         have hfzLb_1 := blk_frozen BK108.out 1
         have hfzLb_2 := blk_frozen BK108.out 2
         have hfzLb_3 := blk_frozen BK108.out 3
         have hfzLb_4 := blk_frozen BK108.out 4
         have hczLo_0 : wL2_.cell? ⟨gb106, 0, none⟩ = some (.int .i64 a0_0) := (blk_cell BK106.out 0).trans rfl
         have hczLo_1 : wL2_.cell? ⟨gb106, 1, none⟩ = some (u107001) := (blk_cell BK106.out 1).trans rfl
         have hfzLo_0 := blk_frozen BK106.out 0
         have hfzLo_1 := blk_frozen BK106.out 1
         go_wp2_with (first | ((with_reducible refine gate_builtin (b := .append) (xs := #[.tmp 27, .tmp 29]) rfl ?_); at_builtin; refine Kd.R_append k33 (w0 := w) w.heap.size rfl (.tmp 27) (.tmp 29) 23 33 (.agg #[(.int .i64 0), (.int .i64 0), (.int .i64 0), (.int .i64 0), (.int .i64 0)]) 40 rfl Try.underlying23 info33 rfl (by decide) (by omega) u107001 x107001_1 (⟨(rd_T33 l0_1 x16_1).f1, (rd_T33 l0_1 x16_1).f0, (rd_T33 l0_1 x16_1).f2, (rd_T33 l0_1 x16_1).f3, (rd_T33 l0_1 x16_1).f4⟩ : S33) [.int .i64 ((rd_T33 l0_1 x16_1).f1), .int .i64 ((rd_T33 l0_1 x16_1).f0), .int .i64 ((rd_T33 l0_1 x16_1).f2), .int .i64 ((rd_T33 l0_1 x16_1).f3), .int .i64 ((rd_T33 l0_1 x16_1).f4)] (fun k_ => k_ ≠ gb108) (fun _ => False) rfl (by first | (go_simp; done) | (go_simp; rfl)) ?aP (fun _ hk => hk.elim) ?aF ?aO ?aB ?aS ?aL ?_; (case aP => exact k33_mkM _ _ _ (⟨(rd_T33 l0_1 x16_1).f1, (rd_T33 l0_1 x16_1).f0, (rd_T33 l0_1 x16_1).f2, (rd_T33 l0_1 x16_1).f3, (rd_T33 l0_1 x16_1).f4⟩ : S33)); (case aB => exact (uB4 HB GE101.out GE102.out GE106.out GE108.out)); (case aF => exact (fun k_ hk => Kd.freshB (g := gb108) (o := .cells #[.int .i64 ((rd_T33 l0_1 x16_1).f1), .int .i64 ((rd_T33 l0_1 x16_1).f0), .int .i64 ((rd_T33 l0_1 x16_1).f2), .int .i64 ((rd_T33 l0_1 x16_1).f3), .int .i64 ((rd_T33 l0_1 x16_1).f4)] 33 (0, 0)) (ub BK108) k_ hk)); (case aO => exact Kd.R_mono HO_107001.out (fun _ hk => hk.2)); (case aS => exact (below_size (uB4 HB GE101.out GE102.out GE106.out GE108.out))); (case aL => have := LMc21.out; omega); intro v110 w30 ho hb hg hat; rw [← Ny109.out] at ho; have n0_ := Aside0.mk (blk_grown (g := gb101) (o := .cells #[.int .i64 a0_0, .slice (some ad107) l0_1.length c0_1] 25 (0, 0)) (ub BK101) hg (Kd.R_ne HO_107001.out BK101.out (by decide))); have n1_ := Aside0.mk (blk_grown (g := gb102) (o := .cells #[.int .i64 0, .slice none 0 0] 25 (0, 0)) (ub BK102) hg (Kd.R_ne HO_107001.out BK102.out (by decide))); have n2_ := Aside0.mk (blk_grown (g := gb106) (o := .cells #[.int .i64 a0_0, u107001] 25 (0, 0)) (ub BK106) hg (Kd.R_ne HO_107001.out BK106.out (by decide))); have n3_ := Aside0.mk (blk_grown (g := gb108) (o := .cells #[.int .i64 ((rd_T33 l0_1 x16_1).f1), .int .i64 ((rd_T33 l0_1 x16_1).f0), .int .i64 ((rd_T33 l0_1 x16_1).f2), .int .i64 ((rd_T33 l0_1 x16_1).f3), .int .i64 ((rd_T33 l0_1 x16_1).f4)] 33 (0, 0)) (ub BK108) hg (Kd.R_away HO_107001.out (fun _ hk => hk.2))); have n4_ := Aside0.mk (hb); have n5_ := Aside0.mk (ho); clear BK101; clear BK102; clear BK106; clear BK108; clear HB; clear HO_107001; have BK101 := n0_; have BK102 := n1_; have BK106 := n2_; have BK108 := n3_; have HB := n4_; have HO111 := n5_; clear n0_ n1_ n2_ n3_ n4_ n5_; clear ho hb hg hat; obtain ⟨Ao31, co31, eo31⟩ := Kd.R_slice HO111.out; subst eo31; have hcz32_0 : w30.cell? ⟨gb106, 0, none⟩ = some (.int .i64 a0_0) := (blk_cell BK106.out 0).trans rfl; have hcz32_1 : w30.cell? ⟨gb106, 1, none⟩ = some (u107001) := (blk_cell BK106.out 1).trans rfl; have hfz32_0 := blk_frozen BK106.out 0; have hfz32_1 := blk_frozen BK106.out 1))
         go_roundg k1
         case measure => have := HK1.out; omega
         case rel => exact ⟨(wrap64 (x16_1 + 1)), (y109), (.slice Ao31 y109.length co31), ue, H', ⟨by have := HK1.out; omega⟩, ⟨by (with_reducible repeat (first | apply Kd.R_alloc | apply Kd.R_drewN | apply Kd.R_drew)); exact Kd.R_mono (Kd.R_far (p := ⟨gb106, 1, none⟩) (Kd.R_types HO111.out BK106.out (by decide)) (fun _ hk => hk.2) (.slice Ao31 y109.length co31)) (fun _ hk => trivial)⟩, ⟨by (with_reducible repeat (first | refine blk_drewN ?_ _ | refine blk_drew ?_ | refine blk_alloc ?_ _)); refine blk_far ?_ NB101_106.out _; exact ub BK101⟩, ⟨by (with_reducible repeat (first | refine blk_drewN ?_ _ | refine blk_drew ?_ | refine blk_alloc ?_ _)); refine blk_far ?_ NB102_106.out _; exact ub BK102⟩, ⟨by (with_reducible repeat (first | refine blk_drewN ?_ _ | refine blk_drew ?_ | refine blk_alloc ?_ _)); refine blk_put (cs := #[.int .i64 a0_0, u107001]) ?_ 1 _ rfl; exact ub BK106⟩, ⟨uB4 HB GE101.out GE102.out GE106.out GE108.out⟩⟩
        ·
         rw [if_neg c21] at H
         exact absurd H (by simp)
       ·
        rw [if_neg c20] at H
        exact absurd H (by simp)
      ·
       rw [if_neg c19] at H
       exact absurd H (by simp)
     ·
      rw [if_neg c18] at H
      have c18b0 : decide (x16_1 < (l0_1.length : Int)) = false := decide_eq_false c18
      clear c18
      simp only [Option.some.injEq, Prod.mk.injEq] at H
      obtain ⟨rfl, rfl⟩ := H
      have hnb33 := NB106_101.out
      have hnc33 := NB101_106.out
      have hnb34 := NB106_102.out
      have hnc34 := NB102_106.out
      have hcz35_0 : wr.cell? ⟨gb106, 0, none⟩ = some (.int .i64 a0_0) := (blk_cell BK106.out 0).trans rfl
      have hcz35_1 : wr.cell? ⟨gb106, 1, none⟩ = some (u107001) := (blk_cell BK106.out 1).trans rfl
      have hfz35_0 := blk_frozen BK106.out 0
      have hfz35_1 := blk_frozen BK106.out 1
      have hnb36 := NB102_101.out
      have hnc36 := NB101_102.out
      have hcz37_0 : wr.cell? ⟨gb102, 0, none⟩ = some (.int .i64 0) := (blk_cell BK102.out 0).trans rfl
      have hcz37_1 : wr.cell? ⟨gb102, 1, none⟩ = some (.slice none 0 0) := (blk_cell BK102.out 1).trans rfl
      have hfz37_0 := blk_frozen BK102.out 0
      have hfz37_1 := blk_frozen BK102.out 1
      obtain ⟨Ao38, co38, eo38⟩ := Kd.R_slice HO_107001.out
      subst eo38
      go_wp2
      refine bodyPost_ret (results_cell_row rfl _ _ gb102 25 #[.int .i64 a0_0, .slice Ao38 x107001_1.length co38] (0, 0) _ rfl (by (with_reducible repeat (first | refine blk_drewN ?_ _ | refine blk_drew ?_ | refine blk_alloc ?_ _)); refine blk_put (cs := #[.int .i64 a0_0, .slice none 0 0]) ?_ 1 _ rfl; (with_reducible repeat (first | refine blk_drewN ?_ _ | refine blk_drew ?_ | refine blk_alloc ?_ _)); refine blk_put (cs := #[.int .i64 0, .slice none 0 0]) ?_ 0 _ rfl; exact ub BK102) Try.underlying25 rfl (by kernel_rfl)) rfl ?_
      exact ⟨_, by first | rfl | (simp [errW_none, errW_some] <;> rfl) | (simp [*, errW_none, errW_some] <;> rfl), by (with_reducible repeat (first | apply Kd.R_alloc | apply Kd.R_drewN | apply Kd.R_drew)); exact Kd.R_mono (Kd.R_far (p := ⟨gb102, 1, none⟩) (Kd.R_far (p := ⟨gb102, 0, none⟩) (Kd.R_types HO_107001.out BK102.out (by decide)) (fun _ hk => hk.2) (.int .i64 a0_0)) (fun _ hk => hk.2) (.slice Ao38 x107001_1.length co38)) (fun _ hk => trivial), by repeat (first | (with_reducible first | exact HB.out | apply below_alloc | apply pw_below_drewN | apply below_drew1 | refine below_set ?_ GE101.out | refine below_set ?_ GE102.out | refine below_set ?_ GE106.out) | exact HB.out)⟩
  ·
   rw [if_neg c3] at H
   exact absurd H (by simp)
 ·
  rw [if_neg c2] at H
  exact absurd H (by simp)

end Go.Proofs.Ytjmpngfgfddpaaa.P
