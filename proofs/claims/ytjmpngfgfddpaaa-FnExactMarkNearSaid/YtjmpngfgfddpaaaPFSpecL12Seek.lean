-- written for this claim by a program (wip/gen/myprint.py over the print tool). Not trusted: Lean checks it.
import Derived.Test.YtjmpngfgfddpaaaPx0
import Derived.Test.YtjmpngfgfddpaaaHUp
import Derived.Test.YtjmpngfgfddpaaaPFSpecL12Bound
import Derived.Test.YtjmpngfgfddpaaaPFSpecL12Next
namespace Go.Proofs.Ytjmpngfgfddpaaa.P
open Go.RowKit Go.Proofs.YtjmpngfgfddpaaaV.PrintWords Go.Proofs.YtjmpngfgfddpaaaV.PrintLast
set_option linter.unusedVariables false
set_option linter.unusedSimpArgs false

/-! ### spec_l12Seek: function 143 -/
mutual
def spec_l12Seek.l0 : Nat → List Int → Int → Int → List Int → List Int → List Bool → Int → Int → List (S33) → Option (Int × Int)
 | 0, _, _, _, _, _, _, _, _, _ => none
 | k + 1, x1, x2, x3, x10, x11, x12, x13, x102000, x102001 => if x13 < x102000 then (if 0 ≤ x13 then (if x13 < (x10.length : Int) then ((spec_l12Bound.f k x102000 x102001 x1 x13 x3).bind fun t112 => (if x11.length < 17592186044416 then (spec_l12Seek.l0 k x1 x2 x3 (x10.set (x13 : Int).toNat 99999) (x11 ++ [t112]) x12 (wrap64 (x13 + 1)) x102000 x102001) else (none))) else (none)) else (none)) else (if 0 ≤ x2 then (if x2 < (x10.length : Int) then (spec_l12Seek.l1 k x3 (x10.set (x2 : Int).toNat 0) x11 x12 0 x102000 x102001) else (none)) else (none))
def spec_l12Seek.l1 : Nat → Int → List Int → List Int → List Bool → Int → Int → List (S33) → Option (Int × Int)
 | 0, _, _, _, _, _, _, _ => none
 | k + 1, x3, x10, x11, x12, x14, x102000, x102001 => (spec_l12Next.f k x102000 x102001 x10 x12 x11).bind fun t117 => (if t117 < 0 then (some (99999, x14)) else (if 0 ≤ t117 then (if t117 < (x12.length : Int) then (if t117 = x3 then (if 0 ≤ x3 then (if x3 < (x10.length : Int) then (some (rd x10 x3, wrap64 (x14 + 1))) else (none)) else (none)) else (spec_l12Seek.l2 k x3 x10 x11 (x12.set (t117 : Int).toNat true) (wrap64 (x14 + 1)) t117 0 x102000 x102001)) else (none)) else (none)))
def spec_l12Seek.l2 : Nat → Int → List Int → List Int → List Bool → Int → Int → Int → Int → List (S33) → Option (Int × Int)
 | 0, _, _, _, _, _, _, _, _, _ => none
 | k + 1, x3, x10, x11, x12, x14, x15, x16, x102000, x102001 => if x16 < (x102001.length : Int) then (if 0 ≤ x16 then (if ((rd_T33 x102001 x16).f0) = x15 then (if 0 ≤ x15 then (if x15 < (x10.length : Int) then (if 0 ≤ ((rd_T33 x102001 x16).f1) then (if ((rd_T33 x102001 x16).f1) < (x10.length : Int) then (if (wrap64 ((rd x10 x15) + ((rd_T33 x102001 x16).f2))) < (rd x10 ((rd_T33 x102001 x16).f1)) then (spec_l12Seek.l2 k x3 (x10.set (((rd_T33 x102001 x16).f1) : Int).toNat (wrap64 ((rd x10 x15) + ((rd_T33 x102001 x16).f2)))) x11 x12 x14 x15 (wrap64 (x16 + 1)) x102000 x102001) else (spec_l12Seek.l2 k x3 x10 x11 x12 x14 x15 (wrap64 (x16 + 1)) x102000 x102001)) else (none)) else (none)) else (none)) else (none)) else (spec_l12Seek.l2 k x3 x10 x11 x12 x14 x15 (wrap64 (x16 + 1)) x102000 x102001)) else (none)) else (spec_l12Seek.l1 k x3 x10 x11 x12 x14 x102000 x102001)
end
def spec_l12Seek.f (k : Nat) (a0_0 : Int) (l0_1 : List (S33)) (l1 : List Int) (a2 : Int) (a3 : Int) : Option (Int × Int) := if 0 ≤ a0_0 then (if (a0_0 : Int).toNat ≤ 35184372088832 then (if (a0_0 : Int).toNat ≤ 281474976710656 then (spec_l12Seek.l0 k l1 a2 a3 (List.replicate (a0_0 : Int).toNat 0) (([] : List Int)) (List.replicate (a0_0 : Int).toNat false) 0 a0_0 l0_1) else (none)) else (none)) else (none)
def spec_l12Seek.T22 : Bool × List (List Nat × List Nat) := (true, [([], []), ([0], [0]), ([], []), ([1, 2], [1, 2]), ([3], [3]), ([4], [4]), ([4], [4]), ([5, 6, 4], [4, 5, 6]), ([7, 4], [4, 7]), ([4], [4]), ([9, 4], [4, 9]), ([8, 10, 4], [4, 8, 10]), ([4], [4]), ([4], [4]), ([13, 4], [4, 13]), ([12, 14, 4], [4, 12, 14]), ([15, 4], [4, 15]), ([11, 16, 4], [4, 11, 16]), ([4, 17], [4, 17])])
def spec_l12Seek.B22 : List Nat := [0, 1, 0, 7, 15, 31, 31, 127, 255, 31, 543, 2047, 31, 31, 8223, 28703, 61471, 131071, 262143]
theorem spec_l12Seek.tab22 : rtab .any (opsOf Try.f143 22) = spec_l12Seek.T22 := by kernel_rfl
theorem spec_l12Seek.bits22 : waitsOk spec_l12Seek.T22.2 spec_l12Seek.B22 = true := by kernel_rfl
def spec_l12Seek.T23 : Bool × List (List Nat × List Nat) := (true, [([], []), ([], []), ([1], [1]), ([], []), ([], []), ([3, 4], [3, 4]), ([5], [5]), ([], []), ([7], [7]), ([6, 8], [6, 8]), ([0, 2, 0, 1, 2, 3, 4, 5, 6, 7, 8, 9], [0, 2]), ([10, 9, 0, 1, 2, 3, 4, 5, 6, 7, 8, 9], [9, 10])])
def spec_l12Seek.B23 : List Nat := [0, 0, 2, 0, 0, 24, 56, 0, 128, 504, 1023, 2047]
theorem spec_l12Seek.tab23 : rtab .any (opsOf Try.f143 23) = spec_l12Seek.T23 := by kernel_rfl
theorem spec_l12Seek.bits23 : waitsOk spec_l12Seek.T23.2 spec_l12Seek.B23 = true := by kernel_rfl
set_option maxHeartbeats 8000000 in
set_option maxRecDepth 100000 in
theorem spec_l12Seek.calls (k : Nat) (a0_0 : Int) (A0_1 : Option Addr) (c0_1 : Nat) (l0_1 : List (S33)) (A1 : Option Addr) (c1 : Nat) (l1 : List Int) (a2 : Int) (a3 : Int) (r1 : Int) (r2 : Int) (w : World) (hr0_1 : Kd.C k33 w A0_1 l0_1.length l0_1) (hc0_1 : l0_1.length ≤ c0_1) (hr1 : Kd.C (Kd.int .i64) w A1 l1.length l1) (hc1 : l1.length ≤ c1) (h : spec_l12Seek.f k a0_0 l0_1 l1 a2 a3 = some (r1, r2)) :
  Calls Try.prog 143 #[.agg #[.int .i64 a0_0, .slice A0_1 l0_1.length c0_1], .slice A1 l1.length c1, .int .i64 a2, .int .i64 a3] w fun e w' => e = .returned (.tuple #[.int .i64 r1, .int .i64 r2]) ∧ Below w.heap.size w w' := by
 have hu25 := Try.underlying25
 have hu33 := Try.underlying33
 have HR0_1 := Aside0.mk hr0_1
 have HC0_1 := Aside0.mk hc0_1
 clear hr0_1 hc0_1
 have HR1 := Aside0.mk hr1
 have HC1 := Aside0.mk hc1
 clear hr1 hc1
 have HB := Aside0.mk (Below.refl w.heap.size w)
 have H : (if 0 ≤ a0_0 then (if (a0_0 : Int).toNat ≤ 35184372088832 then (if (a0_0 : Int).toNat ≤ 281474976710656 then (spec_l12Seek.l0 k l1 a2 a3 (List.replicate (a0_0 : Int).toNat 0) (([] : List Int)) (List.replicate (a0_0 : Int).toNat false) 0 a0_0 l0_1) else (none)) else (none)) else (none)) = some (r1, r2) := h
 clear h
 by_cases c5 : 0 ≤ a0_0
 ·
  rw [if_pos c5] at H
  have c5b0 := eq_true c5
  have c5b1 : decide (0 ≤ a0_0) = true := decide_eq_true c5
  clear c5
  by_cases c6 : (a0_0 : Int).toNat ≤ 35184372088832
  ·
   rw [if_pos c6] at H
   have c6b0 := eq_true c6
   have c6b1 : decide ((a0_0 : Int).toNat ≤ 35184372088832) = true := decide_eq_true c6
   clear c6
   obtain ⟨y102, hy102⟩ : ∃ y_ : List Int, y_ = (List.replicate (a0_0 : Int).toNat 0) := ⟨_, rfl⟩
   replace H : (if (a0_0 : Int).toNat ≤ 281474976710656 then (spec_l12Seek.l0 k l1 a2 a3 y102 (([] : List Int)) (List.replicate (a0_0 : Int).toNat false) 0 a0_0 l0_1) else (none)) = some (r1, r2) := by first | (rw [hy102]; with_reducible exact H) | (have H2_ := (Option.bind_some _ _).symm.trans H; rw [hy102]; with_reducible exact H2_) | (have H2_ := (Option.bind_some _ _).symm.trans H; with_reducible exact H2_) | with_reducible exact H | (rw [hy102]; exact H) | exact H
   have Ny102 := Aside0.mk hy102
   clear hy102
   obtain ⟨y105, hy105⟩ : ∃ y_ : List Int, y_ = (([] : List Int)) := ⟨_, rfl⟩
   replace H : (if (a0_0 : Int).toNat ≤ 281474976710656 then (spec_l12Seek.l0 k l1 a2 a3 y102 y105 (List.replicate (a0_0 : Int).toNat false) 0 a0_0 l0_1) else (none)) = some (r1, r2) := by first | (rw [hy105]; with_reducible exact H) | (have H2_ := (Option.bind_some _ _).symm.trans H; rw [hy105]; with_reducible exact H2_) | (have H2_ := (Option.bind_some _ _).symm.trans H; with_reducible exact H2_) | with_reducible exact H | (rw [hy105]; exact H) | exact H
   have Ny105 := Aside0.mk hy105
   clear hy105
   by_cases c7 : (a0_0 : Int).toNat ≤ 281474976710656
   ·
    rw [if_pos c7] at H
    have c7b0 := eq_true c7
    have c7b1 : decide ((a0_0 : Int).toNat ≤ 281474976710656) = true := decide_eq_true c7
    clear c7
    obtain ⟨y108, hy108⟩ : ∃ y_ : List Bool, y_ = (List.replicate (a0_0 : Int).toNat false) := ⟨_, rfl⟩
    replace H : (spec_l12Seek.l0 k l1 a2 a3 y102 y105 y108 0 a0_0 l0_1) = some (r1, r2) := by first | (rw [hy108]; with_reducible exact H) | (have H2_ := (Option.bind_some _ _).symm.trans H; rw [hy108]; with_reducible exact H2_) | (have H2_ := (Option.bind_some _ _).symm.trans H; with_reducible exact H2_) | with_reducible exact H | (rw [hy108]; exact H) | exact H
    have Ny108 := Aside0.mk hy108
    clear hy108
    have H' := Aside0.mk H
    clear H
    go_enter Try.func143, Try.ntmps143
    go_wp2_with (first | ((with_reducible refine gate_dst (N := 4) rfl ?_); refine box_event ?hg (N := 4) ?hd (cs := #[.int .i64 a0_0, .slice A0_1 l0_1.length c0_1]) (t := 25) ?hr ?_; (case hd => rfl); (case hg => rfl); (case hr => first | (go_simp; done) | (go_simp; rfl)); intro gb101 hg w8 hbox hb; have n0_ := Aside0.mk (below_step (uB0 HB) hb); have n1_ := Aside0.mk (hbox); have n2_ := Aside0.mk ((by rw [hg]; exact (below_size (uB0 HB)) : w.heap.size ≤ gb101)); have n3_ := Aside0.mk ((by rw [hg]; exact (below_size (uB0 HB)) : w.heap.size ≤ gb101)); clear HB; have HB := n0_; have BK101 := n1_; have GW101 := n2_; have GE101 := n3_; clear n0_ n1_ n2_ n3_; clear hb hbox hg; have hcz9_0 : w8.cell? ⟨gb101, 0, none⟩ = some (.int .i64 a0_0) := (blk_cell BK101.out 0).trans rfl; have hcz9_1 : w8.cell? ⟨gb101, 1, none⟩ = some (.slice A0_1 l0_1.length c0_1) := (blk_cell BK101.out 1).trans rfl; have hfz9_0 := blk_frozen BK101.out 0; have hfz9_1 := blk_frozen BK101.out 1) | ((with_reducible refine gate_dst (N := 20) rfl ?_); refine Kd.R_make (Kd.int .i64) _ 3 rfl (N := 20) rfl 28 _ _ rfl a0_0 rfl rfl Try.underlying28 (.int .i64 0) 8 info3 rfl (by decide) (by omega) 0 (ok := fun _ => True) (okp := fun _ => True) rfl (fun _ hk => hk) trivial (ua) (Nat.le_trans (Nat.mul_le_mul_right _ (ua : a0_0.toNat ≤ 35184372088832)) (by omega)) (Below.refl _ _) (Nat.le_refl _) ?_; intro v103 w10 ho11 hb hg_ hnew_; clear hg_ hnew_; (first | rw [← Ny102.out] at ho11 | (simp only [Int.reduceToNat] at ho11; rw [← Ny102.out] at ho11)); have n0_ := Aside0.mk (Kd.R_lower ho11 (below_size (uB1 HB GE101.out))); have n1_ := Aside0.mk (blk_below (g := gb101) (o := .cells #[.int .i64 a0_0, .slice A0_1 l0_1.length c0_1] 25 (0, 0)) (ub BK101) hb); have n2_ := Aside0.mk (below_step (uB1 HB GE101.out) hb); clear BK101; clear HB; have HO104 := n0_; have BK101 := n1_; have HB := n2_; clear n0_ n1_ n2_; clear hb ho11) | ((with_reducible refine gate_dst (N := 21) rfl ?_); refine Kd.R_lit (Kd.int .i64) _ 3 ?hg (N := 21) ?hd (xs := ([] : List Int)) (inner := []) (ok := fun _ => True) (okp := fun _ => True) ?hr ?hp (fun _ hk => hk) trivial (Below.refl _ _) (Nat.le_refl _) (by simp) ?_; (case hd => rfl); (case hg => rfl); (case hr => first | (go_simp; done) | (go_simp; rfl)); (case hp => exact (Reps.none _ _)); intro v106 w12 ho13 hb hg_ hnew_; clear hg_ hnew_; (first | rw [← Ny105.out] at ho13 | (simp only [Int.reduceToNat] at ho13; rw [← Ny105.out] at ho13)); have n0_ := Aside0.mk (Kd.R_elder' (ur HO104) (Kd.R_base ho13) hb); have n1_ := Aside0.mk (Kd.R_lower (Kd.R_new' ho13 (Kd.R_lt (ur HO104))) (below_size (uB1 HB GE101.out))); have n2_ := Aside0.mk (blk_below (g := gb101) (o := .cells #[.int .i64 a0_0, .slice A0_1 l0_1.length c0_1] 25 (0, 0)) (ub BK101) hb); have n3_ := Aside0.mk (below_step (uB1 HB GE101.out) hb); clear HO104; clear BK101; clear HB; have HO104 := n0_; have HO107 := n1_; have BK101 := n2_; have HB := n3_; clear n0_ n1_ n2_ n3_; clear hb ho13; have hcz14_0 : w12.cell? ⟨gb101, 0, none⟩ = some (.int .i64 a0_0) := (blk_cell BK101.out 0).trans rfl; have hcz14_1 : w12.cell? ⟨gb101, 1, none⟩ = some (.slice A0_1 l0_1.length c0_1) := (blk_cell BK101.out 1).trans rfl; have hfz14_0 := blk_frozen BK101.out 0; have hfz14_1 := blk_frozen BK101.out 1) | ((with_reducible refine gate_dst (N := 24) rfl ?_); refine Kd.R_make Kd.bool _ 4 rfl (N := 24) rfl 111 _ _ rfl a0_0 rfl rfl Try.underlying111 (.bool false) 1 info4 rfl (by decide) (by omega) false (ok := fun _ => True) (okp := fun _ => True) rfl (fun _ hk => hk) trivial (ua) (Nat.le_trans (Nat.mul_le_mul_right _ (ua : a0_0.toNat ≤ 281474976710656)) (by omega)) (Below.refl _ _) (Nat.le_refl _) ?_; intro v109 w15 ho16 hb hg_ hnew_; clear hg_ hnew_; (first | rw [← Ny108.out] at ho16 | (simp only [Int.reduceToNat] at ho16; rw [← Ny108.out] at ho16)); have n0_ := Aside0.mk (Kd.R_below (ur HO104) hb); have n1_ := Aside0.mk (Kd.R_below (ur HO107) hb); have n2_ := Aside0.mk (Kd.R_lower ho16 (below_size (uB1 HB GE101.out))); have n3_ := Aside0.mk (blk_below (g := gb101) (o := .cells #[.int .i64 a0_0, .slice A0_1 l0_1.length c0_1] 25 (0, 0)) (ub BK101) hb); have n4_ := Aside0.mk (below_step (uB1 HB GE101.out) hb); clear HO104; clear HO107; clear BK101; clear HB; have HO104 := n0_; have HO107 := n1_; have HO110 := n2_; have BK101 := n3_; have HB := n4_; clear n0_ n1_ n2_ n3_ n4_; clear hb ho16))
    go_loopg [11, 13] k (fun kq v11 v13 w' => ∃ (x10_1 : List Int) (x11_1 : List Int) (x13_1 : Int), v13 = .int .i64 x13_1 ∧ Aside0 (spec_l12Seek.l0 kq l1 a2 a3 x10_1 x11_1 y108 x13_1 a0_0 l0_1 = some (r1, r2)) ∧ Aside0 (kq ≤ k) ∧ Aside0 (Kd.R (Kd.int .i64) 3 w' w.heap.size (fun k_ => some k_ ≠ (v11 : Value).ownBlock) v103 x10_1) ∧ Aside0 (Kd.R (Kd.int .i64) 3 w' w.heap.size (fun k_ => some k_ ≠ (v103 : Value).ownBlock) v11 x11_1) ∧ Aside0 (Kd.R Kd.bool 4 w' w.heap.size (fun _ => True) v109 y108) ∧ Aside0 (w'.heap[gb101]? = some (.cells #[.int .i64 a0_0, (.slice A0_1 l0_1.length c0_1)] 25 (0, 0))) ∧ Aside0 (Below w.heap.size w w'))
    case atStart => exact ⟨(y102), (y105), (0), ue, H', ⟨Nat.le_refl _⟩, ⟨by (with_reducible repeat (first | apply Kd.R_alloc | apply Kd.R_drewN | apply Kd.R_drew)); exact Kd.R_mono HO104.out (fun _ hk => hk.2)⟩, ⟨by (with_reducible repeat (first | apply Kd.R_alloc | apply Kd.R_drewN | apply Kd.R_drew)); exact Kd.R_mono HO107.out (fun _ hk => hk.2)⟩, ⟨ur HO110⟩, ⟨ub BK101⟩, ⟨uB1 HB GE101.out⟩⟩
    case round =>
     clear H'
     try clear c1
     try clear p2
     try clear c5
     try clear c5b0
     try clear c5b1
     try clear c6
     try clear c6b0
     try clear c6b1
     try clear c7
     try clear c7b0
     try clear c7b1
     try clear c14
     try clear hcz14_0
     try clear hcz14_1
     try clear hcz9_0
     try clear hcz9_1
     try clear hfz14_0
     try clear hfz14_1
     try clear hfz9_0
     try clear hfz9_1
     obtain ⟨x10_1, x11_1, x13_1, rfl, HA, HK1, HO_10, HO_11, HO_12, BK101, HB⟩ := hrel
     cases gk with
     | zero => exact absurd HA.out (by simp [spec_l12Seek.l0])
     | succ k1 =>
      have H := HA.out
      clear HA
      simp only [spec_l12Seek.l0] at H
      by_cases c17 : x13_1 < a0_0
      ·
       rw [if_pos c17] at H
       have c17b0 : decide (x13_1 < a0_0) = true := decide_eq_true c17
       clear c17
       by_cases c18 : 0 ≤ x13_1
       ·
        rw [if_pos c18] at H
        have c18b0 : decide (0 ≤ x13_1) = true := decide_eq_true c18
        clear c18
        by_cases c19 : x13_1 < (x10_1.length : Int)
        ·
         rw [if_pos c19] at H
         have c19b0 : decide (x13_1 < (x10_1.length : Int)) = true := decide_eq_true c19
         clear c19
         obtain ⟨y111, hy111⟩ : ∃ y_ : List Int, y_ = (x10_1.set (x13_1 : Int).toNat 99999) := ⟨_, rfl⟩
         replace H : ((spec_l12Bound.f k1 a0_0 l0_1 l1 x13_1 a3).bind fun t112 => (if x11_1.length < 17592186044416 then (spec_l12Seek.l0 k1 l1 a2 a3 y111 (x11_1 ++ [t112]) y108 (wrap64 (x13_1 + 1)) a0_0 l0_1) else (none))) = some (r1, r2) := by first | (rw [hy111]; with_reducible exact H) | (have H2_ := (Option.bind_some _ _).symm.trans H; rw [hy111]; with_reducible exact H2_) | (have H2_ := (Option.bind_some _ _).symm.trans H; with_reducible exact H2_) | with_reducible exact H | (rw [hy111]; exact H) | exact H
         have Ny111 := Aside0.mk hy111
         clear hy111
         replace H := Option.bind_eq_some_iff.mp H
         obtain ⟨t112, A210, H⟩ := H
         replace H : (if x11_1.length < 17592186044416 then (spec_l12Seek.l0 k1 l1 a2 a3 y111 (x11_1 ++ [t112]) y108 (wrap64 (x13_1 + 1)) a0_0 l0_1) else (none)) = some (r1, r2) := H
         have A21 := Aside0.mk A210
         clear A210
         by_cases c22 : x11_1.length < 17592186044416
         ·
          rw [if_pos c22] at H
          have LMc22 := Aside0.mk c22
          clear c22
          obtain ⟨y113, hy113⟩ : ∃ y_ : List Int, y_ = (x11_1 ++ [t112]) := ⟨_, rfl⟩
          replace H : (spec_l12Seek.l0 k1 l1 a2 a3 y111 y113 y108 (wrap64 (x13_1 + 1)) a0_0 l0_1) = some (r1, r2) := by first | (rw [hy113]; with_reducible exact H) | (have H2_ := (Option.bind_some _ _).symm.trans H; rw [hy113]; with_reducible exact H2_) | (have H2_ := (Option.bind_some _ _).symm.trans H; with_reducible exact H2_) | with_reducible exact H | (rw [hy113]; exact H) | exact H
          have Ny113 := Aside0.mk hy113
          clear hy113
          have H' := Aside0.mk H
          clear H
          have hcz23_0 : wr.cell? ⟨gb101, 0, none⟩ = some (.int .i64 a0_0) := (blk_cell BK101.out 0).trans rfl
          have hcz23_1 : wr.cell? ⟨gb101, 1, none⟩ = some (.slice A0_1 l0_1.length c0_1) := (blk_cell BK101.out 1).trans rfl
          have hfz23_0 := blk_frozen BK101.out 0
          have hfz23_1 := blk_frozen BK101.out 1
          have p20 : 0 ≤ (x13_1 : Int) := ua
          have q20 : (x13_1 : Int) < ((x10_1.length : Int) : Int) := ua
          obtain ⟨go20, co20, eo20, gb20, gl20, cl20, HG20⟩ := Kd.R_form HO_10.out (by omega)
          (first | cases eo20 | (injection eo20 with ea_ en_ ec_; (first | subst ea_ | (injection ea_ with ea_; subst ea_)); subst ec_; clear en_))
          have GB20 := Aside0.mk gb20
          have GG20 := Aside0.mk HG20
          clear gb20 gl20 HG20
          obtain ⟨hx20_0, hf20_0⟩ := Kd.R_celln 0 HO_10.out (x13_1 : Int) p20 q20
          replace p20 := eq_true p20
          replace q20 := eq_true q20
          have HP24 := Kd.R_putg HO_10.out (x13_1 : Int) 99999
          go_wp2_with (first | ((with_reducible refine gate_store (t := 3) (p := 33) rfl ?_); refine store_event (t := 3) (p := 33) (v := ?vo_w25) (w1 := (wr.setCell ⟨go20, (x13_1 : Int).toNat, none⟩ (.int .i64 99999))) ?hg ?ho ?hn ?hr ?_; (case ho => rfl); (case hg => rfl); (case hn => rfl); (case hr => first | (go_simp; done) | (go_simp; rfl)); intro w25 hw; have hg : wr.grownBy w25 (some go20) := (by rw [hw]; exact HP24.2); have hp_ : Kd.R (Kd.int .i64) 3 w25 w.heap.size (fun k_ => some k_ ≠ (u11 : Value).ownBlock) (.slice (some ⟨go20, 0, none⟩) x10_1.length co20) y111 := (by rw [hw, Ny111.out]; exact HP24.1); clear HP24; have n0_ := Aside0.mk (hp_); have n1_ := Aside0.mk (Kd.R_after (v := (.slice (some ⟨go20, 0, none⟩) x10_1.length co20)) (v1 := (.slice (some ⟨go20, 0, none⟩) x10_1.length co20)) (ok := (fun _ => True)) (by (with_reducible repeat (first | apply Kd.R_alloc | apply Kd.R_drewN | apply Kd.R_drew)); exact Kd.R_mono HO_11.out (fun _ hk => ⟨trivial, hk⟩)) hg (.inl rfl)); have n2_ := Aside0.mk (Kd.R_over' (v := (.slice (some ⟨go20, 0, none⟩) x10_1.length co20)) (ur HO_12) (Kd.R_typed HO_10.out) (by decide) hg); have n3_ := Aside0.mk (blk_grown (g := gb101) (o := .cells #[.int .i64 a0_0, .slice A0_1 l0_1.length c0_1] 25 (0, 0)) (ub BK101) hg (Kd.R_ne HO_10.out BK101.out (by decide))); have n4_ := Aside0.mk ((by rw [hw]; exact below_set (HB.out) GB20.out : Below w.heap.size w w25)); clear HO_10; clear HO_11; clear HO_12; clear BK101; clear HB; have HO_10 := n0_; have HO_11 := n1_; have HO_12 := n2_; have BK101 := n3_; have HB := n4_; clear n0_ n1_ n2_ n3_ n4_; clear hg hw hp_; have hcz26_0 : w25.cell? ⟨gb101, 0, none⟩ = some (.int .i64 a0_0) := (blk_cell BK101.out 0).trans rfl; have hcz26_1 : w25.cell? ⟨gb101, 1, none⟩ = some (.slice A0_1 l0_1.length c0_1) := (blk_cell BK101.out 1).trans rfl; have hfz26_0 := blk_frozen BK101.out 0; have hfz26_1 := blk_frozen BK101.out 1) | ((with_reducible refine gate_callee (f := 136) rfl ?_); refine goesL_ (some 39) rfl rfl Try.func136 (by kernel_rfl) rfl #[.agg #[.int .i64 a0_0, .slice A0_1 l0_1.length c0_1], .slice A1 l1.length c1, .int .i64 x13_1, .int .i64 a3] rfl ul ?_; (with_reducible refine (spec_l12Bound.calls k1 a0_0 _ _ l0_1 _ _ l1 x13_1 a3 t112 _ ?side1 ?side2 ?side3 ?side4 A21.out).mono ?_); (case side1 => exact uC HR0_1 HB); (case side2 => exact HC0_1.out); (case side3 => exact uC HR1 HB); (case side4 => exact HC1.out); rintro e w27 ⟨rfl, hb⟩; refine ⟨_, rfl, ?_⟩; have n0_ := Aside0.mk (Kd.R_below (ur HO_10) hb); have n1_ := Aside0.mk (Kd.R_below (ur HO_11) hb); have n2_ := Aside0.mk (Kd.R_below (ur HO_12) hb); have n3_ := Aside0.mk (blk_below (g := gb101) (o := .cells #[.int .i64 a0_0, .slice A0_1 l0_1.length c0_1] 25 (0, 0)) (ub BK101) hb); have n4_ := Aside0.mk (below_step (uB1 HB GE101.out) hb); clear HO_10; clear HO_11; clear HO_12; clear BK101; clear HB; have HO_10 := n0_; have HO_11 := n1_; have HO_12 := n2_; have BK101 := n3_; have HB := n4_; clear n0_ n1_ n2_ n3_ n4_; (try clear hb); (try clear hb2); (try clear hk); (try clear hi)) | ((with_reducible refine gate_builtin (b := .append) (xs := #[.tmp 34, .tmp 40]) rfl ?_); at_builtin; refine Kd.R_append (Kd.int .i64) (w0 := w) w.heap.size rfl (.tmp 34) (.tmp 40) 28 3 (.int .i64 0) 8 rfl Try.underlying28 info3 rfl (by decide) (by omega) u11 x11_1 t112 [.int .i64 t112] (fun k_ => some k_ ≠ (.slice (some ⟨go20, 0, none⟩) x10_1.length co20 : Value).ownBlock) (fun _ => False) rfl rfl ?aP (fun _ hk => hk.elim) ?aF ?aO ?aB ?aS ?aL ?_; (case aP => exact rfl); (case aB => exact (uB1 HB GE101.out)); (case aF => exact (fun k_ hk => Kd.fresh' (Kd.R_lt (ur HO_10)) k_ hk)); (case aO => exact (by (with_reducible repeat (first | apply Kd.R_alloc | apply Kd.R_drewN | apply Kd.R_drew)); exact Kd.R_mono HO_11.out (fun _ hk => hk.2))); (case aS => exact (below_size (uB1 HB GE101.out))); (case aL => have := LMc22.out; omega); intro v114 w28 ho hb hg hat; rw [← Ny113.out] at ho; have n0_ := Aside0.mk (Kd.R_after (ok := (fun _ => True)) (by (with_reducible repeat (first | apply Kd.R_alloc | apply Kd.R_drewN | apply Kd.R_drew)); exact Kd.R_mono HO_10.out (fun _ hk => ⟨trivial, hk⟩)) hg hat); have n1_ := Aside0.mk (Kd.R_over' (ur HO_12) (Kd.R_typed (ur HO_11)) (by decide) hg); have n2_ := Aside0.mk (blk_grown (g := gb101) (o := .cells #[.int .i64 a0_0, .slice A0_1 l0_1.length c0_1] 25 (0, 0)) (ub BK101) hg (Kd.R_ne HO_11.out BK101.out (by decide))); have n3_ := Aside0.mk (hb); have n4_ := Aside0.mk (ho); clear HO_10; clear HO_12; clear BK101; clear HB; clear HO_11; have HO_10 := n0_; have HO_12 := n1_; have BK101 := n2_; have HB := n3_; have HO115 := n4_; clear n0_ n1_ n2_ n3_ n4_; clear ho hb hg hat))
          go_roundg k1
          case measure => have := HK1.out; omega
          case rel => exact ⟨(y111), (y113), (wrap64 (x13_1 + 1)), ue, H', ⟨by have := HK1.out; omega⟩, ⟨by (with_reducible repeat (first | apply Kd.R_alloc | apply Kd.R_drewN | apply Kd.R_drew)); exact Kd.R_mono HO_10.out (fun _ hk => hk.2)⟩, ⟨ur HO115⟩, ⟨ur HO_12⟩, ⟨ub BK101⟩, ⟨uB1 HB GE101.out⟩⟩
         ·
          rw [if_neg c22] at H
          exact absurd H (by simp)
        ·
         rw [if_neg c19] at H
         exact absurd H (by simp)
       ·
        rw [if_neg c18] at H
        exact absurd H (by simp)
      ·
       rw [if_neg c17] at H
       have c17b0 : decide (x13_1 < a0_0) = false := decide_eq_false c17
       clear c17
       by_cases c29 : 0 ≤ a2
       ·
        rw [if_pos c29] at H
        have c29b0 : decide (0 ≤ a2) = true := decide_eq_true c29
        clear c29
        by_cases c30 : a2 < (x10_1.length : Int)
        ·
         rw [if_pos c30] at H
         have c30b0 : decide (a2 < (x10_1.length : Int)) = true := decide_eq_true c30
         clear c30
         obtain ⟨y116, hy116⟩ : ∃ y_ : List Int, y_ = (x10_1.set (a2 : Int).toNat 0) := ⟨_, rfl⟩
         replace H : (spec_l12Seek.l1 k1 a3 y116 x11_1 y108 0 a0_0 l0_1) = some (r1, r2) := by first | (rw [hy116]; with_reducible exact H) | (have H2_ := (Option.bind_some _ _).symm.trans H; rw [hy116]; with_reducible exact H2_) | (have H2_ := (Option.bind_some _ _).symm.trans H; with_reducible exact H2_) | with_reducible exact H | (rw [hy116]; exact H) | exact H
         have Ny116 := Aside0.mk hy116
         clear hy116
         have H' := Aside0.mk H
         clear H
         have hcz32_0 : wr.cell? ⟨gb101, 0, none⟩ = some (.int .i64 a0_0) := (blk_cell BK101.out 0).trans rfl
         have hcz32_1 : wr.cell? ⟨gb101, 1, none⟩ = some (.slice A0_1 l0_1.length c0_1) := (blk_cell BK101.out 1).trans rfl
         have hfz32_0 := blk_frozen BK101.out 0
         have hfz32_1 := blk_frozen BK101.out 1
         have p31 : 0 ≤ (a2 : Int) := ua
         have q31 : (a2 : Int) < ((x10_1.length : Int) : Int) := ua
         obtain ⟨go31, co31, eo31, gb31, gl31, cl31, HG31⟩ := Kd.R_form HO_10.out (by omega)
         (first | cases eo31 | (injection eo31 with ea_ en_ ec_; (first | subst ea_ | (injection ea_ with ea_; subst ea_)); subst ec_; clear en_))
         have GB31 := Aside0.mk gb31
         have GG31 := Aside0.mk HG31
         clear gb31 gl31 HG31
         obtain ⟨hx31_0, hf31_0⟩ := Kd.R_celln 0 HO_10.out (a2 : Int) p31 q31
         replace p31 := eq_true p31
         replace q31 := eq_true q31
         have HP33 := Kd.R_putg HO_10.out (a2 : Int) 0
         go_wp2_with (first | ((with_reducible refine gate_store (t := 3) (p := 44) rfl ?_); refine store_event (t := 3) (p := 44) (v := ?vo_w34) (w1 := (wr.setCell ⟨go31, (a2 : Int).toNat, none⟩ (.int .i64 0))) ?hg ?ho ?hn ?hr ?_; (case ho => rfl); (case hg => rfl); (case hn => rfl); (case hr => first | (go_simp; done) | (go_simp; rfl)); intro w34 hw; have hg : wr.grownBy w34 (some go31) := (by rw [hw]; exact HP33.2); have hp_ : Kd.R (Kd.int .i64) 3 w34 w.heap.size (fun k_ => some k_ ≠ (u11 : Value).ownBlock) (.slice (some ⟨go31, 0, none⟩) x10_1.length co31) y116 := (by rw [hw, Ny116.out]; exact HP33.1); clear HP33; have n0_ := Aside0.mk (hp_); have n1_ := Aside0.mk (Kd.R_after (v := (.slice (some ⟨go31, 0, none⟩) x10_1.length co31)) (v1 := (.slice (some ⟨go31, 0, none⟩) x10_1.length co31)) (ok := (fun _ => True)) (by (with_reducible repeat (first | apply Kd.R_alloc | apply Kd.R_drewN | apply Kd.R_drew)); exact Kd.R_mono HO_11.out (fun _ hk => ⟨trivial, hk⟩)) hg (.inl rfl)); have n2_ := Aside0.mk (Kd.R_over' (v := (.slice (some ⟨go31, 0, none⟩) x10_1.length co31)) (ur HO_12) (Kd.R_typed HO_10.out) (by decide) hg); have n3_ := Aside0.mk (blk_grown (g := gb101) (o := .cells #[.int .i64 a0_0, .slice A0_1 l0_1.length c0_1] 25 (0, 0)) (ub BK101) hg (Kd.R_ne HO_10.out BK101.out (by decide))); have n4_ := Aside0.mk ((by rw [hw]; exact below_set (HB.out) GB31.out : Below w.heap.size w w34)); clear HO_10; clear HO_11; clear HO_12; clear BK101; clear HB; have HO_10 := n0_; have HO_11 := n1_; have HO_12 := n2_; have BK101 := n3_; have HB := n4_; clear n0_ n1_ n2_ n3_ n4_; clear hg hw hp_))
         go_loopg [14] k1 (fun kq v14 w' => ∃ (x10_2 : List Int) (x12_2 : List Bool) (x14_2 : Int), v14 = .int .i64 x14_2 ∧ Aside0 (spec_l12Seek.l1 kq a3 x10_2 x11_1 x12_2 x14_2 a0_0 l0_1 = some (r1, r2)) ∧ Aside0 (kq ≤ k1) ∧ Aside0 (Kd.R (Kd.int .i64) 3 w' w.heap.size (fun k_ => some k_ ≠ (u11 : Value).ownBlock) (.slice (some ⟨go31, 0, none⟩) x10_1.length co31) x10_2) ∧ Aside0 (Kd.R (Kd.int .i64) 3 w' w.heap.size (fun k_ => some k_ ≠ ((.slice (some ⟨go31, 0, none⟩) x10_1.length co31) : Value).ownBlock) u11 x11_1) ∧ Aside0 (Kd.R Kd.bool 4 w' w.heap.size (fun _ => True) v109 x12_2) ∧ Aside0 (w'.heap[gb101]? = some (.cells #[.int .i64 a0_0, (.slice A0_1 l0_1.length c0_1)] 25 (0, 0))) ∧ Aside0 (Below w.heap.size w w'))
         case atStart => exact ⟨(y116), (y108), (0), ue, H', ⟨Nat.le_refl _⟩, ⟨ur HO_10⟩, ⟨by (with_reducible repeat (first | apply Kd.R_alloc | apply Kd.R_drewN | apply Kd.R_drew)); exact Kd.R_mono HO_11.out (fun _ hk => hk.2)⟩, ⟨ur HO_12⟩, ⟨ub BK101⟩, ⟨uB1 HB GE101.out⟩⟩
         case round =>
          clear H'
          try clear c1
          try clear c2
          try clear p2
          try clear q2
          try clear hx2
          try clear c3
          try clear p3
          try clear q3
          try clear hx3
          try clear c5
          try clear c5b0
          try clear c5b1
          try clear c6
          try clear c6b0
          try clear c6b1
          try clear p6
          try clear c7
          try clear c7b0
          try clear c7b1
          try clear c13
          try clear c14
          try clear c17
          try clear c17b0
          try clear c18
          try clear c18b0
          try clear c19
          try clear c19b0
          try clear p20
          try clear q20
          try clear hx20
          try clear hf20
          try clear c22
          try clear c29
          try clear c29b0
          try clear c30
          try clear c30b0
          try clear p31
          try clear q31
          try clear hx31
          try clear hf31
          try clear hcz14_0
          try clear hcz14_1
          try clear hcz23_0
          try clear hcz23_1
          try clear hcz26_0
          try clear hcz26_1
          try clear hcz32_0
          try clear hcz32_1
          try clear hcz9_0
          try clear hcz9_1
          try clear hfz14_0
          try clear hfz14_1
          try clear hfz23_0
          try clear hfz23_1
          try clear hfz26_0
          try clear hfz26_1
          try clear hfz32_0
          try clear hfz32_1
          try clear hfz9_0
          try clear hfz9_1
          try clear hx20_0
          try clear hx31_0
          try clear p2
          try clear p20
          try clear p31
          try clear q20
          try clear q31
          obtain ⟨x10_2, x12_2, x14_2, rfl, HA, HK2, HO_10, HO_11, HO_12, BK101, HB⟩ := hrel
          have hl10_2 := (Kd.R_reads' HO_10.out).1
          rw [hl10_2] at HO_10
          (try simp only [hl10_2])
          (try simp only [hl10_2] at BK101)
          (try simp only [hl10_2] at HO_11)
          (try simp only [hl10_2] at HO_12)
          cases gk with
          | zero => exact absurd HA.out (by simp [spec_l12Seek.l1])
          | succ k2 =>
           have H := HA.out
           clear HA
           simp only [spec_l12Seek.l1] at H
           replace H := Option.bind_eq_some_iff.mp H
           obtain ⟨t117, A350, H⟩ := H
           replace H : (if t117 < 0 then (some (99999, x14_2)) else (if 0 ≤ t117 then (if t117 < (x12_2.length : Int) then (if t117 = a3 then (if 0 ≤ a3 then (if a3 < (x10_2.length : Int) then (some (rd x10_2 a3, wrap64 (x14_2 + 1))) else (none)) else (none)) else (spec_l12Seek.l2 k2 a3 x10_2 x11_1 (x12_2.set (t117 : Int).toNat true) (wrap64 (x14_2 + 1)) t117 0 a0_0 l0_1)) else (none)) else (none))) = some (r1, r2) := H
           have A35 := Aside0.mk A350
           clear A350
           have HH_ := Aside0.mk H
           clear H
           have hcz36_0 : wr.cell? ⟨gb101, 0, none⟩ = some (.int .i64 a0_0) := (blk_cell BK101.out 0).trans rfl
           have hcz36_1 : wr.cell? ⟨gb101, 1, none⟩ = some (.slice A0_1 l0_1.length c0_1) := (blk_cell BK101.out 1).trans rfl
           have hfz36_0 := blk_frozen BK101.out 0
           have hfz36_1 := blk_frozen BK101.out 1
           obtain ⟨Ao37, co37, eo37⟩ := Kd.R_slice HO_12.out
           subst eo37
           obtain ⟨Ao38, co38, eo38⟩ := Kd.R_slice HO_11.out
           subst eo38
           go_upto_region 12 with (first | ((with_reducible refine gate_callee (f := 167) rfl ?_); refine goesL_ (some 49) rfl rfl Try.func167 (by kernel_rfl) rfl #[.agg #[.int .i64 a0_0, .slice A0_1 l0_1.length c0_1], .slice (some ⟨go31, 0, none⟩) x10_2.length co31, .slice Ao37 x12_2.length co37, .slice Ao38 x11_1.length co38] rfl ul ?_; (with_reducible refine (spec_l12Next.calls k2 a0_0 _ _ l0_1 _ _ x10_2 _ _ x12_2 _ _ x11_1 t117 _ ?side1 ?side2 ?side3 ?side4 ?side5 ?side6 ?side7 ?side8 A35.out).mono ?_); (case side1 => exact uC HR0_1 HB); (case side2 => exact HC0_1.out); (case side3 => repeat (first | exact (Kd.R_reads' HO_10.out).2.2 | (with_reducible refine Kd.C_alloc ?_ _) | (with_reducible refine Kd.C_drewN ?_ _) | (with_reducible refine Kd.C_drew ?_))); (case side4 => exact (Kd.R_reads' HO_10.out).2.1); (case side5 => repeat (first | exact (Kd.R_reads' HO_12.out).2.2 | (with_reducible refine Kd.C_alloc ?_ _) | (with_reducible refine Kd.C_drewN ?_ _) | (with_reducible refine Kd.C_drew ?_))); (case side6 => exact (Kd.R_reads' HO_12.out).2.1); (case side7 => repeat (first | exact (Kd.R_reads' HO_11.out).2.2 | (with_reducible refine Kd.C_alloc ?_ _) | (with_reducible refine Kd.C_drewN ?_ _) | (with_reducible refine Kd.C_drew ?_))); (case side8 => exact (Kd.R_reads' HO_11.out).2.1); rintro e w39 ⟨rfl, hb⟩; refine ⟨_, rfl, ?_⟩; have n0_ := Aside0.mk (Kd.R_below (ur HO_10) hb); have n1_ := Aside0.mk (Kd.R_below (ur HO_11) hb); have n2_ := Aside0.mk (Kd.R_below (ur HO_12) hb); have n3_ := Aside0.mk (blk_below (g := gb101) (o := .cells #[.int .i64 a0_0, .slice A0_1 l0_1.length c0_1] 25 (0, 0)) (ub BK101) hb); have n4_ := Aside0.mk (below_step (uB1 HB GE101.out) hb); clear HO_10; clear HO_11; clear HO_12; clear BK101; clear HB; have HO_10 := n0_; have HO_11 := n1_; have HO_12 := n2_; have BK101 := n3_; have HB := n4_; clear n0_ n1_ n2_ n3_ n4_; (try clear hb); (try clear hb2); (try clear hk); (try clear hi)))
           have H := HH_.out
           clear HH_
           by_cases c40 : t117 < 0
           ·
            rw [if_pos c40] at H
            have c40b0 : decide (t117 < 0) = true := decide_eq_true c40
            clear c40
            simp only [Option.some.injEq, Prod.mk.injEq] at H
            obtain ⟨rfl, rfl⟩ := H
            go_wp2
            go_ret2
            exact ⟨by first | rfl | (simp [errW_none, errW_some] <;> rfl) | (simp [*, errW_none, errW_some] <;> rfl), by repeat (first | (with_reducible first | exact HB.out | apply below_alloc | apply pw_below_drewN | apply below_drew1 | refine below_set ?_ GE101.out) | exact HB.out)⟩
           ·
            rw [if_neg c40] at H
            have c40b0 : decide (t117 < 0) = false := decide_eq_false c40
            clear c40
            by_cases c41 : 0 ≤ t117
            ·
             rw [if_pos c41] at H
             have c41b0 : decide (0 ≤ t117) = true := decide_eq_true c41
             clear c41
             by_cases c42 : t117 < (x12_2.length : Int)
             ·
              rw [if_pos c42] at H
              have c42b0 : decide (t117 < (x12_2.length : Int)) = true := decide_eq_true c42
              clear c42
              obtain ⟨y118, hy118⟩ : ∃ y_ : List Bool, y_ = (x12_2.set (t117 : Int).toNat true) := ⟨_, rfl⟩
              replace H : (if t117 = a3 then (if 0 ≤ a3 then (if a3 < (x10_2.length : Int) then (some (rd x10_2 a3, wrap64 (x14_2 + 1))) else (none)) else (none)) else (spec_l12Seek.l2 k2 a3 x10_2 x11_1 y118 (wrap64 (x14_2 + 1)) t117 0 a0_0 l0_1)) = some (r1, r2) := by first | (rw [hy118]; with_reducible exact H) | (have H2_ := (Option.bind_some _ _).symm.trans H; rw [hy118]; with_reducible exact H2_) | (have H2_ := (Option.bind_some _ _).symm.trans H; with_reducible exact H2_) | with_reducible exact H | (rw [hy118]; exact H) | exact H
              have Ny118 := Aside0.mk hy118
              clear hy118
              have HH_ := Aside0.mk H
              clear H
              have p43 : 0 ≤ (t117 : Int) := ua
              have q43 : (t117 : Int) < ((x12_2.length : Int) : Int) := ua
              obtain ⟨go43, co43, eo43, gb43, gl43, cl43, HG43⟩ := Kd.R_form HO_12.out (by omega)
              (first | cases eo43 | (injection eo43 with ea_ en_ ec_; (first | subst ea_ | (injection ea_ with ea_; subst ea_)); subst ec_; clear en_))
              have GB43 := Aside0.mk gb43
              have GG43 := Aside0.mk HG43
              clear gb43 gl43 HG43
              obtain ⟨hx43_0, hf43_0⟩ := Kd.R_celln false HO_12.out (t117 : Int) p43 q43
              replace p43 := eq_true p43
              replace q43 := eq_true q43
              obtain ⟨hy40_, hz40_⟩ := Kd.R_celln false HO_12.out (t117 : Int) (ua) (ua)
              have HP40 := Kd.R_putg HO_12.out (t117 : Int) true
              go_upto_region 16 with (first | ((with_reducible refine gate_store (t := 4) (p := 57) rfl ?_); refine store_event (t := 4) (p := 57) (v := ?vo_w41) (w1 := (w39.setCell ⟨go43, (t117 : Int).toNat, none⟩ (.bool true))) ?hg ?ho ?hn ?hr ?_; (case ho => rfl); (case hg => rfl); (case hn => rfl); (case hr => first | (go_simp; done) | (go_simp; rfl)); intro w41 hw; have hg : w39.grownBy w41 (some go43) := (by rw [hw]; exact HP40.2); have hp_ : Kd.R Kd.bool 4 w41 w.heap.size (fun _ => True) (.slice (some ⟨go43, 0, none⟩) x12_2.length co37) y118 := (by rw [hw, Ny118.out]; exact HP40.1); clear HP40; have n0_ := Aside0.mk (Kd.R_over' (v := (.slice (some ⟨go43, 0, none⟩) x12_2.length co37)) (ur HO_10) (Kd.R_typed HO_12.out) (by decide) hg); have n1_ := Aside0.mk (Kd.R_over' (v := (.slice (some ⟨go43, 0, none⟩) x12_2.length co37)) (ur HO_11) (Kd.R_typed HO_12.out) (by decide) hg); have n2_ := Aside0.mk (hp_); have n3_ := Aside0.mk (blk_grown (g := gb101) (o := .cells #[.int .i64 a0_0, .slice A0_1 l0_1.length c0_1] 25 (0, 0)) (ub BK101) hg (Kd.R_ne HO_12.out BK101.out (by decide))); have n4_ := Aside0.mk ((by rw [hw]; exact below_set (HB.out) GB43.out : Below w.heap.size w w41)); clear HO_10; clear HO_11; clear HO_12; clear BK101; clear HB; have HO_10 := n0_; have HO_11 := n1_; have HO_12 := n2_; have BK101 := n3_; have HB := n4_; clear n0_ n1_ n2_ n3_ n4_; clear hg hw hp_))
              have H := HH_.out
              clear HH_
              by_cases c44 : t117 = a3
              ·
               rw [if_pos c44] at H
               have c44b0 : (t117 == a3) = true := beq_iff_eq.mpr c44
               have c44b1 : (t117 != a3) = false := bne_eq_false_iff_eq.mpr c44
               clear c44
               by_cases c45 : 0 ≤ a3
               ·
                rw [if_pos c45] at H
                have c45b0 : decide (0 ≤ a3) = true := decide_eq_true c45
                clear c45
                by_cases c46 : a3 < (x10_2.length : Int)
                ·
                 rw [if_pos c46] at H
                 have c46b0 : decide (a3 < (x10_2.length : Int)) = true := decide_eq_true c46
                 clear c46
                 simp only [Option.some.injEq, Prod.mk.injEq] at H
                 obtain ⟨rfl, rfl⟩ := H
                 have p119 : 0 ≤ (a3 : Int) := ua
                 have q119 : a3 < (x10_2.length : Int) := ua
                 obtain ⟨ad119, e119, hx119_0⟩ := Kd.at_int (Kd.R_reads' HO_10.out).2.2 a3 p119 q119
                 obtain rfl : (⟨go31, 0, none⟩ : Addr) = ad119 := (by injection e119)
                 (first | simp only [add_plain] at hx119_0 | simp only [add_at] at hx119_0 | simp only [Addr.add, Nat.zero_add] at hx119_0 | skip)
                 replace p119 := eq_true p119
                 replace q119 := eq_true q119
                 try go_wp2
                 go_ret2
                 exact ⟨by first | rfl | (simp [errW_none, errW_some] <;> rfl) | (simp [*, errW_none, errW_some] <;> rfl), by repeat (first | (with_reducible first | exact HB.out | apply below_alloc | apply pw_below_drewN | apply below_drew1 | refine below_set ?_ GE101.out) | exact HB.out)⟩
                ·
                 rw [if_neg c46] at H
                 exact absurd H (by simp)
               ·
                rw [if_neg c45] at H
                exact absurd H (by simp)
              ·
               rw [if_neg c44] at H
               have c44b0 : (t117 == a3) = false := beq_eq_false_iff_ne.mpr c44
               have c44b1 : (t117 != a3) = true := bne_iff_ne.mpr c44
               have H' := Aside0.mk H
               clear H
               go_wp2
               go_loopg [16] k2 (fun kq v16 w' => ∃ (x10_3 : List Int) (x16_3 : Int), v16 = .int .i64 x16_3 ∧ Aside0 (spec_l12Seek.l2 kq a3 x10_3 x11_1 y118 (wrap64 (x14_2 + 1)) t117 x16_3 a0_0 l0_1 = some (r1, r2)) ∧ Aside0 (kq ≤ k2) ∧ Aside0 (Kd.R (Kd.int .i64) 3 w' w.heap.size (fun k_ => some k_ ≠ ((.slice Ao38 x11_1.length co38) : Value).ownBlock) (.slice (some ⟨go31, 0, none⟩) x10_2.length co31) x10_3) ∧ Aside0 (Kd.R (Kd.int .i64) 3 w' w.heap.size (fun k_ => some k_ ≠ ((.slice (some ⟨go31, 0, none⟩) x10_2.length co31) : Value).ownBlock) (.slice Ao38 x11_1.length co38) x11_1) ∧ Aside0 (Kd.R Kd.bool 4 w' w.heap.size (fun _ => True) (.slice (some ⟨go43, 0, none⟩) x12_2.length co37) y118) ∧ Aside0 (w'.heap[gb101]? = some (.cells #[.int .i64 a0_0, (.slice A0_1 l0_1.length c0_1)] 25 (0, 0))) ∧ Aside0 (Below w.heap.size w w'))
               case atStart => exact ⟨(x10_2), (0), ue, H', ⟨Nat.le_refl _⟩, ⟨by (try simp only [hl10_2]); exact ur HO_10⟩, ⟨by (try simp only [hl10_2]); exact ur HO_11⟩, ⟨by (try simp only [hl10_2]); exact ur HO_12⟩, ⟨by (try simp only [hl10_2]); exact ub BK101⟩, ⟨uB1 HB GE101.out⟩⟩
               case round =>
                clear H'
                try clear c1
                try clear p1
                try clear q1
                try clear hx1
                try clear c2
                try clear p2
                try clear q2
                try clear hx2
                try clear c3
                try clear p3
                try clear q3
                try clear hx3
                try clear c4
                try clear p4
                try clear q4
                try clear hx4
                try clear hf4
                try clear c5
                try clear c5b0
                try clear c5b1
                try clear c6
                try clear c6b0
                try clear c6b1
                try clear p6
                try clear c7
                try clear c7b0
                try clear c7b1
                try clear p11
                try clear q11
                try clear hx11
                try clear c13
                try clear c14
                try clear c16
                try clear c17
                try clear c17b0
                try clear c18
                try clear c18b0
                try clear c19
                try clear c19b0
                try clear p20
                try clear q20
                try clear hx20
                try clear hf20
                try clear c22
                try clear c29
                try clear c29b0
                try clear c30
                try clear c30b0
                try clear p31
                try clear q31
                try clear hx31
                try clear hf31
                try clear c40
                try clear c40b0
                try clear c41
                try clear c41b0
                try clear c42
                try clear c42b0
                try clear p43
                try clear q43
                try clear hx43
                try clear hf43
                try clear c44
                try clear c44b0
                try clear c44b1
                try clear c45
                try clear c45b0
                try clear c46
                try clear c46b0
                try clear hcz14_0
                try clear hcz14_1
                try clear hcz23_0
                try clear hcz23_1
                try clear hcz26_0
                try clear hcz26_1
                try clear hcz32_0
                try clear hcz32_1
                try clear hcz36_0
                try clear hcz36_1
                try clear hcz9_0
                try clear hcz9_1
                try clear hfz14_0
                try clear hfz14_1
                try clear hfz23_0
                try clear hfz23_1
                try clear hfz26_0
                try clear hfz26_1
                try clear hfz32_0
                try clear hfz32_1
                try clear hfz36_0
                try clear hfz36_1
                try clear hfz9_0
                try clear hfz9_1
                try clear hx119_0
                try clear hx20_0
                try clear hx31_0
                try clear hx43_0
                try clear p119
                try clear p2
                try clear p20
                try clear p3
                try clear p31
                try clear p43
                try clear p6
                try clear q119
                try clear q2
                try clear q20
                try clear q3
                try clear q31
                try clear q43
                obtain ⟨x10_3, x16_3, rfl, HA, HK3, HO_10, HO_11, HO_12, BK101, HB⟩ := hrel
                have hl10_3 := (Kd.R_reads' HO_10.out).1
                rw [hl10_3] at HO_10
                (try simp only [hl10_3])
                (try simp only [hl10_3] at BK101)
                (try simp only [hl10_3] at HO_11)
                (try simp only [hl10_3] at HO_12)
                have hl12_3 := (Kd.R_reads' HO_12.out).1
                rw [hl12_3] at HO_12
                (try simp only [hl12_3])
                (try simp only [hl12_3] at BK101)
                (try simp only [hl12_3] at HO_10)
                (try simp only [hl12_3] at HO_11)
                cases gk with
                | zero => exact absurd HA.out (by simp [spec_l12Seek.l2])
                | succ k3 =>
                 have H := HA.out
                 clear HA
                 simp only [spec_l12Seek.l2] at H
                 by_cases c47 : x16_3 < (l0_1.length : Int)
                 ·
                  rw [if_pos c47] at H
                  have c47b0 : decide (x16_3 < (l0_1.length : Int)) = true := decide_eq_true c47
                  clear c47
                  by_cases c48 : 0 ≤ x16_3
                  ·
                   rw [if_pos c48] at H
                   have c48b0 : decide (0 ≤ x16_3) = true := decide_eq_true c48
                   clear c48
                   by_cases c49 : ((rd_T33 l0_1 x16_3).f0) = t117
                   ·
                    rw [if_pos c49] at H
                    have c49b0 : (((rd_T33 l0_1 x16_3).f0) == t117) = true := beq_iff_eq.mpr c49
                    have c49b1 : (((rd_T33 l0_1 x16_3).f0) != t117) = false := bne_eq_false_iff_eq.mpr c49
                    clear c49
                    by_cases c50 : 0 ≤ t117
                    ·
                     rw [if_pos c50] at H
                     have c50b0 : decide (0 ≤ t117) = true := decide_eq_true c50
                     clear c50
                     by_cases c51 : t117 < (x10_3.length : Int)
                     ·
                      rw [if_pos c51] at H
                      have c51b0 : decide (t117 < (x10_3.length : Int)) = true := decide_eq_true c51
                      clear c51
                      by_cases c52 : 0 ≤ ((rd_T33 l0_1 x16_3).f1)
                      ·
                       rw [if_pos c52] at H
                       have c52b0 : decide (0 ≤ ((rd_T33 l0_1 x16_3).f1)) = true := decide_eq_true c52
                       clear c52
                       by_cases c53 : ((rd_T33 l0_1 x16_3).f1) < (x10_3.length : Int)
                       ·
                        rw [if_pos c53] at H
                        have c53b0 : decide (((rd_T33 l0_1 x16_3).f1) < (x10_3.length : Int)) = true := decide_eq_true c53
                        clear c53
                        have HH_ := Aside0.mk H
                        clear H
                        have hcz54_0 : wr.cell? ⟨gb101, 0, none⟩ = some (.int .i64 a0_0) := (blk_cell BK101.out 0).trans rfl
                        have hcz54_1 : wr.cell? ⟨gb101, 1, none⟩ = some (.slice A0_1 l0_1.length c0_1) := (blk_cell BK101.out 1).trans rfl
                        have hfz54_0 := blk_frozen BK101.out 0
                        have hfz54_1 := blk_frozen BK101.out 1
                        have p120 : 0 ≤ (x16_3 : Int) := ua
                        have q120 : x16_3 < (l0_1.length : Int) := ua
                        obtain ⟨ad120, e120, hx120_0, hx120_1, hx120_2, hx120_3, hx120_4⟩ := at_T33 HR0_1.out x16_3 p120 q120
                        cases e120
                        replace hx120_0 := (HB.out.cell (World.block_lt_of_cell? w _ hx120_0)).trans hx120_0
                        replace hx120_1 := (HB.out.cell (World.block_lt_of_cell? w _ hx120_1)).trans hx120_1
                        replace hx120_2 := (HB.out.cell (World.block_lt_of_cell? w _ hx120_2)).trans hx120_2
                        replace hx120_3 := (HB.out.cell (World.block_lt_of_cell? w _ hx120_3)).trans hx120_3
                        replace hx120_4 := (HB.out.cell (World.block_lt_of_cell? w _ hx120_4)).trans hx120_4
                        replace p120 := eq_true p120
                        replace q120 := eq_true q120
                        try go_wp2_with (first | ((with_reducible refine gate_dst (N := 17) rfl ?_); refine box_event ?hg (N := 17) ?hd (cs := #[.int .i64 0, .int .i64 0, .int .i64 0, .int .i64 0, .int .i64 0]) (t := 33) ?hr ?_; (case hd => rfl); (case hg => rfl); (case hr => first | (go_simp; done) | (go_simp; rfl)); intro gb121 hg w55 hbox hb; have n0_ := Aside0.mk (Kd.R_below (ur HO_10) hb); have n1_ := Aside0.mk (Kd.R_below (ur HO_11) hb); have n2_ := Aside0.mk (Kd.R_below (ur HO_12) hb); have n3_ := Aside0.mk (blk_below (g := gb101) (o := .cells #[.int .i64 a0_0, .slice (some ad120) l0_1.length c0_1] 25 (0, 0)) (ub BK101) hb); have n4_ := Aside0.mk (below_step (uB1 HB GE101.out) hb); have n5_ := Aside0.mk (hbox); have n6_ := Aside0.mk ((by rw [hg]; exact (below_size (uB1 HB GE101.out)) : w.heap.size ≤ gb121)); have n7_ := Aside0.mk ((by rw [hg]; exact (below_size (uB1 HB GE101.out)) : w.heap.size ≤ gb121)); have n8_ := Aside0.mk ((by rw [hg]; exact Nat.ne_of_lt (blk_lt (g := gb101) (o := .cells #[.int .i64 a0_0, .slice (some ad120) l0_1.length c0_1] 25 (0, 0)) (ub BK101)) : gb101 ≠ gb121)); have n9_ := Aside0.mk ((by rw [hg]; exact Nat.ne_of_gt (blk_lt (g := gb101) (o := .cells #[.int .i64 a0_0, .slice (some ad120) l0_1.length c0_1] 25 (0, 0)) (ub BK101)) : gb121 ≠ gb101)); clear HO_10; clear HO_11; clear HO_12; clear BK101; clear HB; have HO_10 := n0_; have HO_11 := n1_; have HO_12 := n2_; have BK101 := n3_; have HB := n4_; have BK121 := n5_; have GW121 := n6_; have GE121 := n7_; have NB101_121 := n8_; have NB121_101 := n9_; clear n0_ n1_ n2_ n3_ n4_ n5_ n6_ n7_ n8_ n9_; clear hb hbox hg; have hnb56 := NB121_101.out; have hnc56 := NB101_121.out; have hcz57_0 : w55.cell? ⟨gb121, 0, none⟩ = some (.int .i64 0) := (blk_cell BK121.out 0).trans rfl; have hcz57_1 : w55.cell? ⟨gb121, 1, none⟩ = some (.int .i64 0) := (blk_cell BK121.out 1).trans rfl; have hcz57_2 : w55.cell? ⟨gb121, 2, none⟩ = some (.int .i64 0) := (blk_cell BK121.out 2).trans rfl; have hcz57_3 : w55.cell? ⟨gb121, 3, none⟩ = some (.int .i64 0) := (blk_cell BK121.out 3).trans rfl; have hcz57_4 : w55.cell? ⟨gb121, 4, none⟩ = some (.int .i64 0) := (blk_cell BK121.out 4).trans rfl; have hfz57_0 := blk_frozen BK121.out 0; have hfz57_1 := blk_frozen BK121.out 1; have hfz57_2 := blk_frozen BK121.out 2; have hfz57_3 := blk_frozen BK121.out 3; have hfz57_4 := blk_frozen BK121.out 4))
                        have n0_ : Aside0 (Kd.R (Kd.int .i64) 3 (((((w55.setCell ⟨gb121, 0, none⟩ (.int .i64 ((rd_T33 l0_1 x16_3).f0))).setCell ⟨gb121, 1, none⟩ (.int .i64 ((rd_T33 l0_1 x16_3).f1))).setCell ⟨gb121, 2, none⟩ (.int .i64 ((rd_T33 l0_1 x16_3).f2))).setCell ⟨gb121, 3, none⟩ (.int .i64 ((rd_T33 l0_1 x16_3).f3))).setCell ⟨gb121, 4, none⟩ (.int .i64 ((rd_T33 l0_1 x16_3).f4))) w.heap.size (fun k_ => some k_ ≠ (.slice Ao38 x11_1.length co38 : Value).ownBlock) (.slice (some ⟨go31, 0, none⟩) x10_3.length co31) x10_3) := ⟨by (with_reducible repeat (first | apply Kd.R_alloc | apply Kd.R_drewN | apply Kd.R_drew)); exact Kd.R_mono (Kd.R_far (p := ⟨gb121, 4, none⟩) (Kd.R_far (p := ⟨gb121, 3, none⟩) (Kd.R_far (p := ⟨gb121, 2, none⟩) (Kd.R_far (p := ⟨gb121, 1, none⟩) (Kd.R_far (p := ⟨gb121, 0, none⟩) (Kd.R_types HO_10.out BK121.out (by decide)) (fun _ hk => hk.2) (.int .i64 ((rd_T33 l0_1 x16_3).f0))) (fun _ hk => hk.2) (.int .i64 ((rd_T33 l0_1 x16_3).f1))) (fun _ hk => hk.2) (.int .i64 ((rd_T33 l0_1 x16_3).f2))) (fun _ hk => hk.2) (.int .i64 ((rd_T33 l0_1 x16_3).f3))) (fun _ hk => hk.2) (.int .i64 ((rd_T33 l0_1 x16_3).f4))) (fun _ hk => hk.1)⟩
                        have n1_ : Aside0 (Kd.R (Kd.int .i64) 3 (((((w55.setCell ⟨gb121, 0, none⟩ (.int .i64 ((rd_T33 l0_1 x16_3).f0))).setCell ⟨gb121, 1, none⟩ (.int .i64 ((rd_T33 l0_1 x16_3).f1))).setCell ⟨gb121, 2, none⟩ (.int .i64 ((rd_T33 l0_1 x16_3).f2))).setCell ⟨gb121, 3, none⟩ (.int .i64 ((rd_T33 l0_1 x16_3).f3))).setCell ⟨gb121, 4, none⟩ (.int .i64 ((rd_T33 l0_1 x16_3).f4))) w.heap.size (fun k_ => some k_ ≠ (.slice (some ⟨go31, 0, none⟩) x10_3.length co31 : Value).ownBlock) (.slice Ao38 x11_1.length co38) x11_1) := ⟨by (with_reducible repeat (first | apply Kd.R_alloc | apply Kd.R_drewN | apply Kd.R_drew)); exact Kd.R_mono (Kd.R_far (p := ⟨gb121, 4, none⟩) (Kd.R_far (p := ⟨gb121, 3, none⟩) (Kd.R_far (p := ⟨gb121, 2, none⟩) (Kd.R_far (p := ⟨gb121, 1, none⟩) (Kd.R_far (p := ⟨gb121, 0, none⟩) (Kd.R_types HO_11.out BK121.out (by decide)) (fun _ hk => hk.2) (.int .i64 ((rd_T33 l0_1 x16_3).f0))) (fun _ hk => hk.2) (.int .i64 ((rd_T33 l0_1 x16_3).f1))) (fun _ hk => hk.2) (.int .i64 ((rd_T33 l0_1 x16_3).f2))) (fun _ hk => hk.2) (.int .i64 ((rd_T33 l0_1 x16_3).f3))) (fun _ hk => hk.2) (.int .i64 ((rd_T33 l0_1 x16_3).f4))) (fun _ hk => hk.1)⟩
                        have n2_ : Aside0 (Kd.R Kd.bool 4 (((((w55.setCell ⟨gb121, 0, none⟩ (.int .i64 ((rd_T33 l0_1 x16_3).f0))).setCell ⟨gb121, 1, none⟩ (.int .i64 ((rd_T33 l0_1 x16_3).f1))).setCell ⟨gb121, 2, none⟩ (.int .i64 ((rd_T33 l0_1 x16_3).f2))).setCell ⟨gb121, 3, none⟩ (.int .i64 ((rd_T33 l0_1 x16_3).f3))).setCell ⟨gb121, 4, none⟩ (.int .i64 ((rd_T33 l0_1 x16_3).f4))) w.heap.size (fun _ => True) (.slice (some ⟨go43, 0, none⟩) y118.length co37) y118) := ⟨by (with_reducible repeat (first | apply Kd.R_alloc | apply Kd.R_drewN | apply Kd.R_drew)); exact Kd.R_mono (Kd.R_far (p := ⟨gb121, 4, none⟩) (Kd.R_far (p := ⟨gb121, 3, none⟩) (Kd.R_far (p := ⟨gb121, 2, none⟩) (Kd.R_far (p := ⟨gb121, 1, none⟩) (Kd.R_far (p := ⟨gb121, 0, none⟩) (Kd.R_types HO_12.out BK121.out (by decide)) (fun _ hk => hk.2) (.int .i64 ((rd_T33 l0_1 x16_3).f0))) (fun _ hk => hk.2) (.int .i64 ((rd_T33 l0_1 x16_3).f1))) (fun _ hk => hk.2) (.int .i64 ((rd_T33 l0_1 x16_3).f2))) (fun _ hk => hk.2) (.int .i64 ((rd_T33 l0_1 x16_3).f3))) (fun _ hk => hk.2) (.int .i64 ((rd_T33 l0_1 x16_3).f4))) (fun _ hk => trivial)⟩
                        have n3_ : Aside0 ((((((w55.setCell ⟨gb121, 0, none⟩ (.int .i64 ((rd_T33 l0_1 x16_3).f0))).setCell ⟨gb121, 1, none⟩ (.int .i64 ((rd_T33 l0_1 x16_3).f1))).setCell ⟨gb121, 2, none⟩ (.int .i64 ((rd_T33 l0_1 x16_3).f2))).setCell ⟨gb121, 3, none⟩ (.int .i64 ((rd_T33 l0_1 x16_3).f3))).setCell ⟨gb121, 4, none⟩ (.int .i64 ((rd_T33 l0_1 x16_3).f4))).heap[gb101]? = some (.cells #[.int .i64 a0_0, .slice (some ad120) l0_1.length c0_1] 25 (0, 0))) := ⟨by (with_reducible repeat (first | refine blk_drewN ?_ _ | refine blk_drew ?_ | refine blk_alloc ?_ _)); refine blk_far ?_ NB101_121.out _; (with_reducible repeat (first | refine blk_drewN ?_ _ | refine blk_drew ?_ | refine blk_alloc ?_ _)); refine blk_far ?_ NB101_121.out _; (with_reducible repeat (first | refine blk_drewN ?_ _ | refine blk_drew ?_ | refine blk_alloc ?_ _)); refine blk_far ?_ NB101_121.out _; (with_reducible repeat (first | refine blk_drewN ?_ _ | refine blk_drew ?_ | refine blk_alloc ?_ _)); refine blk_far ?_ NB101_121.out _; (with_reducible repeat (first | refine blk_drewN ?_ _ | refine blk_drew ?_ | refine blk_alloc ?_ _)); refine blk_far ?_ NB101_121.out _; exact ub BK101⟩
                        have n4_ : Aside0 ((((((w55.setCell ⟨gb121, 0, none⟩ (.int .i64 ((rd_T33 l0_1 x16_3).f0))).setCell ⟨gb121, 1, none⟩ (.int .i64 ((rd_T33 l0_1 x16_3).f1))).setCell ⟨gb121, 2, none⟩ (.int .i64 ((rd_T33 l0_1 x16_3).f2))).setCell ⟨gb121, 3, none⟩ (.int .i64 ((rd_T33 l0_1 x16_3).f3))).setCell ⟨gb121, 4, none⟩ (.int .i64 ((rd_T33 l0_1 x16_3).f4))).heap[gb121]? = some (.cells #[.int .i64 ((rd_T33 l0_1 x16_3).f0), .int .i64 ((rd_T33 l0_1 x16_3).f1), .int .i64 ((rd_T33 l0_1 x16_3).f2), .int .i64 ((rd_T33 l0_1 x16_3).f3), .int .i64 ((rd_T33 l0_1 x16_3).f4)] 33 (0, 0))) := ⟨by (with_reducible repeat (first | refine blk_drewN ?_ _ | refine blk_drew ?_ | refine blk_alloc ?_ _)); refine blk_put (cs := #[.int .i64 ((rd_T33 l0_1 x16_3).f0), .int .i64 ((rd_T33 l0_1 x16_3).f1), .int .i64 ((rd_T33 l0_1 x16_3).f2), .int .i64 ((rd_T33 l0_1 x16_3).f3), .int .i64 0]) ?_ 4 _ rfl; (with_reducible repeat (first | refine blk_drewN ?_ _ | refine blk_drew ?_ | refine blk_alloc ?_ _)); refine blk_put (cs := #[.int .i64 ((rd_T33 l0_1 x16_3).f0), .int .i64 ((rd_T33 l0_1 x16_3).f1), .int .i64 ((rd_T33 l0_1 x16_3).f2), .int .i64 0, .int .i64 0]) ?_ 3 _ rfl; (with_reducible repeat (first | refine blk_drewN ?_ _ | refine blk_drew ?_ | refine blk_alloc ?_ _)); refine blk_put (cs := #[.int .i64 ((rd_T33 l0_1 x16_3).f0), .int .i64 ((rd_T33 l0_1 x16_3).f1), .int .i64 0, .int .i64 0, .int .i64 0]) ?_ 2 _ rfl; (with_reducible repeat (first | refine blk_drewN ?_ _ | refine blk_drew ?_ | refine blk_alloc ?_ _)); refine blk_put (cs := #[.int .i64 ((rd_T33 l0_1 x16_3).f0), .int .i64 0, .int .i64 0, .int .i64 0, .int .i64 0]) ?_ 1 _ rfl; (with_reducible repeat (first | refine blk_drewN ?_ _ | refine blk_drew ?_ | refine blk_alloc ?_ _)); refine blk_put (cs := #[.int .i64 0, .int .i64 0, .int .i64 0, .int .i64 0, .int .i64 0]) ?_ 0 _ rfl; exact ub BK121⟩
                        have n5_ : Aside0 (Below w.heap.size w (((((w55.setCell ⟨gb121, 0, none⟩ (.int .i64 ((rd_T33 l0_1 x16_3).f0))).setCell ⟨gb121, 1, none⟩ (.int .i64 ((rd_T33 l0_1 x16_3).f1))).setCell ⟨gb121, 2, none⟩ (.int .i64 ((rd_T33 l0_1 x16_3).f2))).setCell ⟨gb121, 3, none⟩ (.int .i64 ((rd_T33 l0_1 x16_3).f3))).setCell ⟨gb121, 4, none⟩ (.int .i64 ((rd_T33 l0_1 x16_3).f4)))) := ⟨uB2 HB GE101.out GE121.out⟩
                        (try clear HO_10)
                        (try clear HO_11)
                        (try clear HO_12)
                        (try clear BK101)
                        (try clear BK121)
                        (try clear HB)
                        generalize (((((w55.setCell ⟨gb121, 0, none⟩ (.int .i64 ((rd_T33 l0_1 x16_3).f0))).setCell ⟨gb121, 1, none⟩ (.int .i64 ((rd_T33 l0_1 x16_3).f1))).setCell ⟨gb121, 2, none⟩ (.int .i64 ((rd_T33 l0_1 x16_3).f2))).setCell ⟨gb121, 3, none⟩ (.int .i64 ((rd_T33 l0_1 x16_3).f3))).setCell ⟨gb121, 4, none⟩ (.int .i64 ((rd_T33 l0_1 x16_3).f4))) = w58 at n0_ n1_ n2_ n3_ n4_ n5_ ⊢
                        have HO_10 := n0_
                        have HO_11 := n1_
                        have HO_12 := n2_
                        have BK101 := n3_
                        have BK121 := n4_
                        have HB := n5_
                        clear n0_ n1_ n2_ n3_ n4_ n5_
                        have n0_ := Aside0.mk (Kd.R_drew HO_10.out)
                        have n1_ := Aside0.mk (Kd.R_drew HO_11.out)
                        have n2_ := Aside0.mk (Kd.R_drew HO_12.out)
                        have n3_ := Aside0.mk (blk_drew BK101.out)
                        have n4_ := Aside0.mk (blk_drew BK121.out)
                        have n5_ := Aside0.mk (below_drew1 HB.out)
                        clear HO_10
                        clear HO_11
                        clear HO_12
                        clear BK101
                        clear BK121
                        clear HB
                        have HO_10 := n0_
                        have HO_11 := n1_
                        have HO_12 := n2_
                        have BK101 := n3_
                        have BK121 := n4_
                        have HB := n5_
                        clear n0_ n1_ n2_ n3_ n4_ n5_
                        have p122 : 0 ≤ (t117 : Int) := ua
                        have q122 : t117 < (x10_3.length : Int) := ua
                        obtain ⟨ad122, e122, hx122_0⟩ := Kd.at_int (Kd.R_reads' HO_10.out).2.2 t117 p122 q122
                        obtain rfl : (⟨go31, 0, none⟩ : Addr) = ad122 := (by injection e122)
                        (first | simp only [add_plain] at hx122_0 | simp only [add_at] at hx122_0 | simp only [Addr.add, Nat.zero_add] at hx122_0 | skip)
                        replace p122 := eq_true p122
                        replace q122 := eq_true q122
                        have p123 : 0 ≤ (((rd_T33 l0_1 x16_3).f1) : Int) := ua
                        have q123 : ((rd_T33 l0_1 x16_3).f1) < (x10_3.length : Int) := ua
                        obtain ⟨ad123, e123, hx123_0⟩ := Kd.at_int (Kd.R_reads' HO_10.out).2.2 ((rd_T33 l0_1 x16_3).f1) p123 q123
                        obtain rfl : (⟨go31, 0, none⟩ : Addr) = ad123 := (by injection e123)
                        (first | simp only [add_plain] at hx123_0 | simp only [add_at] at hx123_0 | simp only [Addr.add, Nat.zero_add] at hx123_0 | skip)
                        replace p123 := eq_true p123
                        replace q123 := eq_true q123
                        refine start_ (n := 19) (S := fun w' => w'.cell? ⟨gb121, 0, none⟩ = some (.int .i64 ((rd_T33 l0_1 x16_3).f0)) ∧ w'.cell? ⟨gb121, 1, none⟩ = some (.int .i64 ((rd_T33 l0_1 x16_3).f1)) ∧ w'.cell? ⟨gb121, 2, none⟩ = some (.int .i64 ((rd_T33 l0_1 x16_3).f2)) ∧ w'.cell? ⟨gb121, 3, none⟩ = some (.int .i64 ((rd_T33 l0_1 x16_3).f3)) ∧ w'.cell? ⟨gb121, 4, none⟩ = some (.int .i64 ((rd_T33 l0_1 x16_3).f4)) ∧ w'.cell? ⟨go31, (t117).toNat, none⟩ = some (.int .i64 (rd x10_3 t117)) ∧ w'.cell? ⟨go31, (((rd_T33 l0_1 x16_3).f1)).toNat, none⟩ = some (.int .i64 (rd x10_3 ((rd_T33 l0_1 x16_3).f1)))) (ds := []) #[false, false, false, false, false, false, false, false, false, false, false, false, false, false, false, false, false, false, false] (by kernel_rfl) rfl rfl ⟨(blk_cell BK121.out 0).trans rfl, (blk_cell BK121.out 1).trans rfl, (blk_cell BK121.out 2).trans rfl, (blk_cell BK121.out 3).trans rfl, (blk_cell BK121.out 4).trans rfl, hx122_0, hx123_0⟩ (fun hHeld => ?_); refine with_tabW spec_l12Seek.tab22 spec_l12Seek.bits22 (fun HT_ HW_ => ?_)
                        generalize w58.drew = w59 at HO_10 HO_11 HO_12 BK101 BK121 HB hx122_0 hx123_0 hHeld ⊢
                        refine pure_ (i := 0) (N := some 78) (v := ?_) (a' := ?_) #[true, false, false, false, false, false, false, false, false, false, false, false, false, false, false, false, false, false, false] rfl rfl (any_of HT_.out (by kernel_rfl)) (fun _ _ _ h => h) (Or.inl ⟨by rfl, ?_⟩) ?_ ?_
                        rotate_left
                        ·
                         intro w'
                         go_simp
                         with_reducible rfl
                        rotate_left
                        ·
                         simp only [Act.put, List.setIfInBounds_toArray, List.set_cons_zero, List.set_cons_succ, i64_w, i32_w]
                         rfl
                        refine pure_ (i := 2) (N := some 80) (v := ?_) (a' := ?_) #[true, false, true, false, false, false, false, false, false, false, false, false, false, false, false, false, false, false, false] rfl rfl (any_of HT_.out (by kernel_rfl)) (fun _ _ _ h => h) (Or.inl ⟨by rfl, ?_⟩) ?_ ?_
                        rotate_left
                        ·
                         intro w'
                         go_simp
                         with_reducible rfl
                        rotate_left
                        ·
                         simp only [Act.put, List.setIfInBounds_toArray, List.set_cons_zero, List.set_cons_succ, i64_w, i32_w]
                         rfl
                        refine take_ (i := 1) (N := some 79) (v := ?_) (a' := ?_) #[true, true, true, false, false, false, false, false, false, false, false, false, false, false, false, false, false, false, false] rfl rfl (take_ofW HT_.out HW_.out (by kernel_rfl)) (fun _ _ _ h => h) (Or.inl ⟨by rfl, ?_⟩) hHeld ?_ ?_
                        rotate_left
                        ·
                         rintro w' ⟨s0, s1, s2, s3, s4, s5, s6⟩
                         go_simp
                         with_reducible rfl
                        rotate_left
                        ·
                         simp only [Act.put, List.setIfInBounds_toArray, List.set_cons_zero, List.set_cons_succ, i64_w, i32_w]
                         rfl
                        refine pure_ (i := 3) (N := some 81) (v := ?_) (a' := ?_) #[true, true, true, true, false, false, false, false, false, false, false, false, false, false, false, false, false, false, false] rfl rfl (any_of HT_.out (by kernel_rfl)) (fun _ _ _ h => h) (Or.inl ⟨by rfl, ?_⟩) ?_ ?_
                        rotate_left
                        ·
                         intro w'
                         go_simp
                         with_reducible rfl
                        rotate_left
                        ·
                         simp only [Act.put, List.setIfInBounds_toArray, List.set_cons_zero, List.set_cons_succ, i64_w, i32_w]
                         rfl
                        refine pure_ (i := 4) (N := some 82) (v := ?_) (a' := ?_) #[true, true, true, true, true, false, false, false, false, false, false, false, false, false, false, false, false, false, false] rfl rfl (any_of HT_.out (by kernel_rfl)) (fun _ _ _ h => h) (Or.inl ⟨by rfl, ?_⟩) ?_ ?_
                        rotate_left
                        ·
                         intro w'
                         go_simp
                         with_reducible rfl
                        rotate_left
                        ·
                         simp only [Act.put, List.setIfInBounds_toArray, List.set_cons_zero, List.set_cons_succ, i64_w, i32_w]
                         rfl
                        refine pure_ (i := 5) (N := some 83) (v := ?_) (a' := ?_) #[true, true, true, true, true, true, false, false, false, false, false, false, false, false, false, false, false, false, false] rfl rfl (any_of HT_.out (by kernel_rfl)) (fun _ _ _ h => h) (Or.inl ⟨by rfl, ?_⟩) ?_ ?_
                        rotate_left
                        ·
                         intro w'
                         go_simp
                         with_reducible rfl
                        rotate_left
                        ·
                         simp only [Act.put, List.setIfInBounds_toArray, List.set_cons_zero, List.set_cons_succ, i64_w, i32_w]
                         rfl
                        refine pure_ (i := 6) (N := some 84) (v := ?_) (a' := ?_) #[true, true, true, true, true, true, true, false, false, false, false, false, false, false, false, false, false, false, false] rfl rfl (any_of HT_.out (by kernel_rfl)) (fun _ _ _ h => h) (Or.inl ⟨by rfl, ?_⟩) ?_ ?_
                        rotate_left
                        ·
                         intro w'
                         go_simp
                         with_reducible rfl
                        rotate_left
                        ·
                         simp only [Act.put, List.setIfInBounds_toArray, List.set_cons_zero, List.set_cons_succ, i64_w, i32_w]
                         rfl
                        refine pure_ (i := 7) (N := some 85) (v := ?_) (a' := ?_) #[true, true, true, true, true, true, true, true, false, false, false, false, false, false, false, false, false, false, false] rfl rfl (any_of HT_.out (by kernel_rfl)) (fun _ _ _ h => h) (Or.inl ⟨by rfl, ?_⟩) ?_ ?_
                        rotate_left
                        ·
                         intro w'
                         go_simp
                         with_reducible rfl
                        rotate_left
                        ·
                         simp only [Act.put, List.setIfInBounds_toArray, List.set_cons_zero, List.set_cons_succ, i64_w, i32_w]
                         rfl
                        refine pure_ (i := 9) (N := some 87) (v := ?_) (a' := ?_) #[true, true, true, true, true, true, true, true, false, true, false, false, false, false, false, false, false, false, false] rfl rfl (any_of HT_.out (by kernel_rfl)) (fun _ _ _ h => h) (Or.inl ⟨by rfl, ?_⟩) ?_ ?_
                        rotate_left
                        ·
                         intro w'
                         go_simp
                         with_reducible rfl
                        rotate_left
                        ·
                         simp only [Act.put, List.setIfInBounds_toArray, List.set_cons_zero, List.set_cons_succ, i64_w, i32_w]
                         rfl
                        refine pure_ (i := 12) (N := some 90) (v := ?_) (a' := ?_) #[true, true, true, true, true, true, true, true, false, true, false, false, true, false, false, false, false, false, false] rfl rfl (any_of HT_.out (by kernel_rfl)) (fun _ _ _ h => h) (Or.inl ⟨by rfl, ?_⟩) ?_ ?_
                        rotate_left
                        ·
                         intro w'
                         go_simp
                         with_reducible rfl
                        rotate_left
                        ·
                         simp only [Act.put, List.setIfInBounds_toArray, List.set_cons_zero, List.set_cons_succ, i64_w, i32_w]
                         rfl
                        refine pure_ (i := 13) (N := some 91) (v := ?_) (a' := ?_) #[true, true, true, true, true, true, true, true, false, true, false, false, true, true, false, false, false, false, false] rfl rfl (any_of HT_.out (by kernel_rfl)) (fun _ _ _ h => h) (Or.inl ⟨by rfl, ?_⟩) ?_ ?_
                        rotate_left
                        ·
                         intro w'
                         go_simp
                         with_reducible rfl
                        rotate_left
                        ·
                         simp only [Act.put, List.setIfInBounds_toArray, List.set_cons_zero, List.set_cons_succ, i64_w, i32_w]
                         rfl
                        refine take_ (i := 8) (N := some 86) (v := ?_) (a' := ?_) #[true, true, true, true, true, true, true, true, true, true, false, false, true, true, false, false, false, false, false] rfl rfl (take_ofW HT_.out HW_.out (by kernel_rfl)) (fun _ _ _ h => h) (Or.inl ⟨by rfl, ?_⟩) hHeld ?_ ?_
                        rotate_left
                        ·
                         rintro w' ⟨s0, s1, s2, s3, s4, s5, s6⟩
                         go_simp
                         with_reducible rfl
                        rotate_left
                        ·
                         simp only [Act.put, List.setIfInBounds_toArray, List.set_cons_zero, List.set_cons_succ, i64_w, i32_w]
                         rfl
                        refine take_ (i := 10) (N := some 88) (v := ?_) (a' := ?_) #[true, true, true, true, true, true, true, true, true, true, true, false, true, true, false, false, false, false, false] rfl rfl (take_ofW HT_.out HW_.out (by kernel_rfl)) (fun _ _ _ h => h) (Or.inl ⟨by rfl, ?_⟩) hHeld ?_ ?_
                        rotate_left
                        ·
                         rintro w' ⟨s0, s1, s2, s3, s4, s5, s6⟩
                         go_simp
                         with_reducible rfl
                        rotate_left
                        ·
                         simp only [Act.put, List.setIfInBounds_toArray, List.set_cons_zero, List.set_cons_succ, i64_w, i32_w]
                         rfl
                        refine pure_ (i := 11) (N := some 89) (v := ?_) (a' := ?_) #[true, true, true, true, true, true, true, true, true, true, true, true, true, true, false, false, false, false, false] rfl rfl (any_of HT_.out (by kernel_rfl)) (fun _ _ _ h => h) (Or.inl ⟨by rfl, ?_⟩) ?_ ?_
                        rotate_left
                        ·
                         intro w'
                         go_simp
                         with_reducible rfl
                        rotate_left
                        ·
                         simp only [Act.put, List.setIfInBounds_toArray, List.set_cons_zero, List.set_cons_succ, i64_w, i32_w]
                         rfl
                        refine take_ (i := 14) (N := some 92) (v := ?_) (a' := ?_) #[true, true, true, true, true, true, true, true, true, true, true, true, true, true, true, false, false, false, false] rfl rfl (take_ofW HT_.out HW_.out (by kernel_rfl)) (fun _ _ _ h => h) (Or.inl ⟨by rfl, ?_⟩) hHeld ?_ ?_
                        rotate_left
                        ·
                         rintro w' ⟨s0, s1, s2, s3, s4, s5, s6⟩
                         go_simp
                         with_reducible rfl
                        rotate_left
                        ·
                         simp only [Act.put, List.setIfInBounds_toArray, List.set_cons_zero, List.set_cons_succ, i64_w, i32_w]
                         rfl
                        refine pure_ (i := 15) (N := some 93) (v := ?_) (a' := ?_) #[true, true, true, true, true, true, true, true, true, true, true, true, true, true, true, true, false, false, false] rfl rfl (any_of HT_.out (by kernel_rfl)) (fun _ _ _ h => h) (Or.inl ⟨by rfl, ?_⟩) ?_ ?_
                        rotate_left
                        ·
                         intro w'
                         go_simp
                         with_reducible rfl
                        rotate_left
                        ·
                         simp only [Act.put, List.setIfInBounds_toArray, List.set_cons_zero, List.set_cons_succ, i64_w, i32_w]
                         rfl
                        refine take_ (i := 16) (N := some 94) (v := ?_) (a' := ?_) #[true, true, true, true, true, true, true, true, true, true, true, true, true, true, true, true, true, false, false] rfl rfl (take_ofW HT_.out HW_.out (by kernel_rfl)) (fun _ _ _ h => h) (Or.inl ⟨by rfl, ?_⟩) hHeld ?_ ?_
                        rotate_left
                        ·
                         rintro w' ⟨s0, s1, s2, s3, s4, s5, s6⟩
                         go_simp
                         with_reducible rfl
                        rotate_left
                        ·
                         simp only [Act.put, List.setIfInBounds_toArray, List.set_cons_zero, List.set_cons_succ, i64_w, i32_w]
                         rfl
                        refine pure_ (i := 17) (N := some 95) (v := ?_) (a' := ?_) #[true, true, true, true, true, true, true, true, true, true, true, true, true, true, true, true, true, true, false] rfl rfl (any_of HT_.out (by kernel_rfl)) (fun _ _ _ h => h) (Or.inl ⟨by rfl, ?_⟩) ?_ ?_
                        rotate_left
                        ·
                         intro w'
                         go_simp
                         with_reducible rfl
                        rotate_left
                        ·
                         simp only [Act.put, List.setIfInBounds_toArray, List.set_cons_zero, List.set_cons_succ, i64_w, i32_w]
                         rfl
                        refine pure_ (i := 18) (N := some 96) (v := ?_) (a' := ?_) #[true, true, true, true, true, true, true, true, true, true, true, true, true, true, true, true, true, true, true] rfl rfl (any_of HT_.out (by kernel_rfl)) (fun _ _ _ h => h) (Or.inl ⟨by rfl, ?_⟩) ?_ ?_
                        rotate_left
                        ·
                         intro w'
                         go_simp
                         with_reducible rfl
                        rotate_left
                        ·
                         simp only [Act.put, List.setIfInBounds_toArray, List.set_cons_zero, List.set_cons_succ, i64_w, i32_w]
                         rfl
                        refine done_ (done_of HT_.out (by kernel_rfl)) ?_
                        have H := HH_.out
                        clear HH_
                        by_cases c60 : (wrap64 ((rd x10_3 t117) + ((rd_T33 l0_1 x16_3).f2))) < (rd x10_3 ((rd_T33 l0_1 x16_3).f1))
                        ·
                         rw [if_pos c60] at H
                         have c60b0 : decide ((wrap64 ((rd x10_3 t117) + ((rd_T33 l0_1 x16_3).f2))) < (rd x10_3 ((rd_T33 l0_1 x16_3).f1))) = true := decide_eq_true c60
                         try simp only [c60b0]
                         clear c60
                         obtain ⟨y125, hy125⟩ : ∃ y_ : List Int, y_ = (x10_3.set (((rd_T33 l0_1 x16_3).f1) : Int).toNat (wrap64 ((rd x10_3 t117) + ((rd_T33 l0_1 x16_3).f2)))) := ⟨_, rfl⟩
                         replace H : (spec_l12Seek.l2 k3 a3 y125 x11_1 y118 (wrap64 (x14_2 + 1)) t117 (wrap64 (x16_3 + 1)) a0_0 l0_1) = some (r1, r2) := by first | (rw [hy125]; with_reducible exact H) | (have H2_ := (Option.bind_some _ _).symm.trans H; rw [hy125]; with_reducible exact H2_) | (have H2_ := (Option.bind_some _ _).symm.trans H; with_reducible exact H2_) | with_reducible exact H | (rw [hy125]; exact H) | exact H
                         have Ny125 := Aside0.mk hy125
                         clear hy125
                         have H' := Aside0.mk H
                         clear H
                         try go_wp2
                         have n0_ := Aside0.mk (Kd.R_drew HO_10.out)
                         have n1_ := Aside0.mk (Kd.R_drew HO_11.out)
                         have n2_ := Aside0.mk (Kd.R_drew HO_12.out)
                         have n3_ := Aside0.mk (blk_drew BK101.out)
                         have n4_ := Aside0.mk (blk_drew BK121.out)
                         have n5_ := Aside0.mk (below_drew1 HB.out)
                         clear HO_10
                         clear HO_11
                         clear HO_12
                         clear BK101
                         clear BK121
                         clear HB
                         have HO_10 := n0_
                         have HO_11 := n1_
                         have HO_12 := n2_
                         have BK101 := n3_
                         have BK121 := n4_
                         have HB := n5_
                         clear n0_ n1_ n2_ n3_ n4_ n5_
                         have p124 : 0 ≤ (t117 : Int) := ua
                         have q124 : t117 < (x10_3.length : Int) := ua
                         obtain ⟨ad124, e124, hx124_0⟩ := Kd.at_int (Kd.R_reads' HO_10.out).2.2 t117 p124 q124
                         obtain rfl : (⟨go31, 0, none⟩ : Addr) = ad124 := (by injection e124)
                         (first | simp only [add_plain] at hx124_0 | simp only [add_at] at hx124_0 | simp only [Addr.add, Nat.zero_add] at hx124_0 | skip)
                         replace p124 := eq_true p124
                         replace q124 := eq_true q124
                         have p61 : 0 ≤ (((rd_T33 l0_1 x16_3).f1) : Int) := ua
                         have q61 : (((rd_T33 l0_1 x16_3).f1) : Int) < ((x10_3.length : Int) : Int) := ua
                         obtain ⟨hx61_0, hf61_0⟩ := Kd.R_celln 0 HO_10.out (((rd_T33 l0_1 x16_3).f1) : Int) p61 q61
                         replace p61 := eq_true p61
                         replace q61 := eq_true q61
                         have HP61 := Kd.R_putn HO_10.out (((rd_T33 l0_1 x16_3).f1) : Int) (wrap64 ((rd x10_3 t117) + ((rd_T33 l0_1 x16_3).f2)))
                         rw [← Ny125.out] at HP61
                         have HQ61 := Aside0.mk HP61
                         clear HP61
                         refine start_ (n := 12) (S := fun w' => w'.cell? ⟨gb121, 0, none⟩ = some (.int .i64 ((rd_T33 l0_1 x16_3).f0)) ∧ w'.cell? ⟨gb121, 1, none⟩ = some (.int .i64 ((rd_T33 l0_1 x16_3).f1)) ∧ w'.cell? ⟨gb121, 2, none⟩ = some (.int .i64 ((rd_T33 l0_1 x16_3).f2)) ∧ w'.cell? ⟨gb121, 3, none⟩ = some (.int .i64 ((rd_T33 l0_1 x16_3).f3)) ∧ w'.cell? ⟨gb121, 4, none⟩ = some (.int .i64 ((rd_T33 l0_1 x16_3).f4)) ∧ w'.cell? ⟨go31, (t117).toNat, none⟩ = some (.int .i64 (rd x10_3 t117))) (ds := [11]) #[false, false, false, false, false, false, false, false, false, false, false, false] (by kernel_rfl) rfl rfl ⟨(blk_cell BK121.out 0).trans rfl, (blk_cell BK121.out 1).trans rfl, (blk_cell BK121.out 2).trans rfl, (blk_cell BK121.out 3).trans rfl, (blk_cell BK121.out 4).trans rfl, hx124_0⟩ (fun hHeld => ?_); refine with_tabW spec_l12Seek.tab23 spec_l12Seek.bits23 (fun HT_ HW_ => ?_)
                         generalize w59.drew = w60 at HO_10 HO_11 HO_12 BK101 BK121 HB HQ61 hf61_0 hx124_0 hx61_0 hHeld ⊢
                         refine pure_ (i := 0) (N := some 97) (v := ?_) (a' := ?_) #[true, false, false, false, false, false, false, false, false, false, false, false] rfl rfl (any_of HT_.out (by kernel_rfl)) (fun _ _ _ h => h) (Or.inl ⟨by rfl, ?_⟩) ?_ ?_
                         rotate_left
                         ·
                          intro w'
                          go_simp
                          with_reducible rfl
                         rotate_left
                         ·
                          simp only [Act.put, List.setIfInBounds_toArray, List.set_cons_zero, List.set_cons_succ, i64_w, i32_w]
                          rfl
                         refine pure_ (i := 1) (N := some 98) (v := ?_) (a' := ?_) #[true, true, false, false, false, false, false, false, false, false, false, false] rfl rfl (any_of HT_.out (by kernel_rfl)) (fun _ _ _ h => h) (Or.inl ⟨by rfl, ?_⟩) ?_ ?_
                         rotate_left
                         ·
                          intro w'
                          go_simp
                          with_reducible rfl
                         rotate_left
                         ·
                          simp only [Act.put, List.setIfInBounds_toArray, List.set_cons_zero, List.set_cons_succ, i64_w, i32_w]
                          rfl
                         refine pure_ (i := 3) (N := some 100) (v := ?_) (a' := ?_) #[true, true, false, true, false, false, false, false, false, false, false, false] rfl rfl (any_of HT_.out (by kernel_rfl)) (fun _ _ _ h => h) (Or.inl ⟨by rfl, ?_⟩) ?_ ?_
                         rotate_left
                         ·
                          intro w'
                          go_simp
                          with_reducible rfl
                         rotate_left
                         ·
                          simp only [Act.put, List.setIfInBounds_toArray, List.set_cons_zero, List.set_cons_succ, i64_w, i32_w]
                          rfl
                         refine pure_ (i := 4) (N := some 101) (v := ?_) (a' := ?_) #[true, true, false, true, true, false, false, false, false, false, false, false] rfl rfl (any_of HT_.out (by kernel_rfl)) (fun _ _ _ h => h) (Or.inl ⟨by rfl, ?_⟩) ?_ ?_
                         rotate_left
                         ·
                          intro w'
                          go_simp
                          with_reducible rfl
                         rotate_left
                         ·
                          simp only [Act.put, List.setIfInBounds_toArray, List.set_cons_zero, List.set_cons_succ, i64_w, i32_w]
                          rfl
                         refine pure_ (i := 5) (N := some 102) (v := ?_) (a' := ?_) #[true, true, false, true, true, true, false, false, false, false, false, false] rfl rfl (any_of HT_.out (by kernel_rfl)) (fun _ _ _ h => h) (Or.inl ⟨by rfl, ?_⟩) ?_ ?_
                         rotate_left
                         ·
                          intro w'
                          go_simp
                          with_reducible rfl
                         rotate_left
                         ·
                          simp only [Act.put, List.setIfInBounds_toArray, List.set_cons_zero, List.set_cons_succ, i64_w, i32_w]
                          rfl
                         refine pure_ (i := 7) (N := some 104) (v := ?_) (a' := ?_) #[true, true, false, true, true, true, false, true, false, false, false, false] rfl rfl (any_of HT_.out (by kernel_rfl)) (fun _ _ _ h => h) (Or.inl ⟨by rfl, ?_⟩) ?_ ?_
                         rotate_left
                         ·
                          intro w'
                          go_simp
                          with_reducible rfl
                         rotate_left
                         ·
                          simp only [Act.put, List.setIfInBounds_toArray, List.set_cons_zero, List.set_cons_succ, i64_w, i32_w]
                          rfl
                         refine take_ (i := 2) (N := some 99) (v := ?_) (a' := ?_) #[true, true, true, true, true, true, false, true, false, false, false, false] rfl rfl (take_ofW HT_.out HW_.out (by kernel_rfl)) (fun _ _ _ h => h) (Or.inl ⟨by rfl, ?_⟩) hHeld ?_ ?_
                         rotate_left
                         ·
                          rintro w' ⟨s0, s1, s2, s3, s4, s5⟩
                          go_simp
                          with_reducible rfl
                         rotate_left
                         ·
                          simp only [Act.put, List.setIfInBounds_toArray, List.set_cons_zero, List.set_cons_succ, i64_w, i32_w]
                          rfl
                         refine take_ (i := 6) (N := some 103) (v := ?_) (a' := ?_) #[true, true, true, true, true, true, true, true, false, false, false, false] rfl rfl (take_ofW HT_.out HW_.out (by kernel_rfl)) (fun _ _ _ h => h) (Or.inl ⟨by rfl, ?_⟩) hHeld ?_ ?_
                         rotate_left
                         ·
                          rintro w' ⟨s0, s1, s2, s3, s4, s5⟩
                          go_simp
                          with_reducible rfl
                         rotate_left
                         ·
                          simp only [Act.put, List.setIfInBounds_toArray, List.set_cons_zero, List.set_cons_succ, i64_w, i32_w]
                          rfl
                         refine take_ (i := 8) (N := some 105) (v := ?_) (a' := ?_) #[true, true, true, true, true, true, true, true, true, false, false, false] rfl rfl (take_ofW HT_.out HW_.out (by kernel_rfl)) (fun _ _ _ h => h) (Or.inl ⟨by rfl, ?_⟩) hHeld ?_ ?_
                         rotate_left
                         ·
                          rintro w' ⟨s0, s1, s2, s3, s4, s5⟩
                          go_simp
                          with_reducible rfl
                         rotate_left
                         ·
                          simp only [Act.put, List.setIfInBounds_toArray, List.set_cons_zero, List.set_cons_succ, i64_w, i32_w]
                          rfl
                         refine pure_ (i := 9) (N := some 106) (v := ?_) (a' := ?_) #[true, true, true, true, true, true, true, true, true, true, false, false] rfl rfl (any_of HT_.out (by kernel_rfl)) (fun _ _ _ h => h) (Or.inl ⟨by rfl, ?_⟩) ?_ ?_
                         rotate_left
                         ·
                          intro w'
                          go_simp
                          with_reducible rfl
                         rotate_left
                         ·
                          simp only [Act.put, List.setIfInBounds_toArray, List.set_cons_zero, List.set_cons_succ, i64_w, i32_w]
                          rfl
                         refine pure_ (i := 10) (N := some 107) (v := ?_) (a' := ?_) #[true, true, true, true, true, true, true, true, true, true, true, false] rfl rfl (any_of HT_.out (by kernel_rfl)) (fun _ _ _ h => h) (Or.inl ⟨by rfl, ?_⟩) ?_ ?_
                         rotate_left
                         ·
                          intro w'
                          go_simp
                          with_reducible rfl
                         rotate_left
                         ·
                          simp only [Act.put, List.setIfInBounds_toArray, List.set_cons_zero, List.set_cons_succ, i64_w, i32_w]
                          rfl
                         refine last_ (i := 11) (N := none) #[true, true, true, true, true, true, true, true, true, true, true, true] rfl rfl (one_of HT_.out (by kernel_rfl)) (by decide) (fun K hK => ?_)
                         refine skip_ (w1 := ?_) (by rfl) rfl ?_ ?_
                         rotate_left
                         ·
                          go_simp
                          rfl
                         refine hK.out _ _ ?_
                         clear hK K
                         refine done_ (done_of HT_.out (by kernel_rfl)) ?_
                         try go_wp2
                         (try simp only [← hl10_3, ← hl12_3])
                         go_roundg k3
                         case measure => have := HK1.out; have := HK2.out; have := HK3.out; omega
                         case rel => exact ⟨(y125), (wrap64 (x16_3 + 1)), ue, H', ⟨by have := HK1.out; have := HK2.out; have := HK3.out; omega⟩, ⟨by (try simp only [hl10_2]); (try simp only [hl10_3]); (try simp only [hl12_3]); exact ur HQ61⟩, ⟨by (try simp only [hl10_2]); (try simp only [hl10_3]); (try simp only [hl12_3]); (with_reducible repeat (first | apply Kd.R_alloc | apply Kd.R_drewN | apply Kd.R_drew)); exact Kd.R_mono (Kd.R_far (p := ⟨go31, (((rd_T33 l0_1 x16_3).f1) : Int).toNat, none⟩) (Kd.R_mono HO_11.out (fun k_ hk => (⟨hk, fun e_ => hk (by rw [e_]; rfl)⟩ : _ ∧ k_ ≠ go31))) (fun _ hk => hk.2) (.int .i64 (wrap64 ((rd x10_3 t117) + ((rd_T33 l0_1 x16_3).f2))))) (fun _ hk => hk.1)⟩, ⟨by (try simp only [hl10_2]); (try simp only [hl10_3]); (try simp only [hl12_3]); (with_reducible repeat (first | apply Kd.R_alloc | apply Kd.R_drewN | apply Kd.R_drew)); exact Kd.R_mono (Kd.R_far (p := ⟨go31, (((rd_T33 l0_1 x16_3).f1) : Int).toNat, none⟩) (Kd.R_types2 HO_12.out (Kd.R_typed HO_10.out) rfl (by decide)) (fun _ hk => hk.2) (.int .i64 (wrap64 ((rd x10_3 t117) + ((rd_T33 l0_1 x16_3).f2))))) (fun _ hk => trivial)⟩, ⟨by (try simp only [hl10_2]); (try simp only [hl10_3]); (try simp only [hl12_3]); (with_reducible repeat (first | refine blk_drewN ?_ _ | refine blk_drew ?_ | refine blk_alloc ?_ _)); refine blk_far ?_ (by have h_ := Kd.R_ne HO_10.out BK101.out (by decide); intro e_; exact h_ (by rw [e_]; rfl)) _; exact ub BK101⟩, ⟨uB3 HB GB31.out GE101.out GE121.out⟩⟩
                        ·
                         rw [if_neg c60] at H
                         have c60b0 : decide ((wrap64 ((rd x10_3 t117) + ((rd_T33 l0_1 x16_3).f2))) < (rd x10_3 ((rd_T33 l0_1 x16_3).f1))) = false := decide_eq_false c60
                         try simp only [c60b0]
                         clear c60
                         have H' := Aside0.mk H
                         clear H
                         go_wp2
                         (try simp only [← hl10_3, ← hl12_3])
                         go_roundg k3
                         case measure => have := HK1.out; have := HK2.out; have := HK3.out; omega
                         case rel => exact ⟨(x10_3), (wrap64 (x16_3 + 1)), ue, H', ⟨by have := HK1.out; have := HK2.out; have := HK3.out; omega⟩, ⟨by (try simp only [hl10_2]); (try simp only [hl10_3]); (try simp only [hl12_3]); exact ur HO_10⟩, ⟨by (try simp only [hl10_2]); (try simp only [hl10_3]); (try simp only [hl12_3]); exact ur HO_11⟩, ⟨by (try simp only [hl10_2]); (try simp only [hl10_3]); (try simp only [hl12_3]); exact ur HO_12⟩, ⟨by (try simp only [hl10_2]); (try simp only [hl10_3]); (try simp only [hl12_3]); exact ub BK101⟩, ⟨uB2 HB GE101.out GE121.out⟩⟩
                       ·
                        rw [if_neg c53] at H
                        exact absurd H (by simp)
                      ·
                       rw [if_neg c52] at H
                       exact absurd H (by simp)
                     ·
                      rw [if_neg c51] at H
                      exact absurd H (by simp)
                    ·
                     rw [if_neg c50] at H
                     exact absurd H (by simp)
                   ·
                    rw [if_neg c49] at H
                    have c49b0 : (((rd_T33 l0_1 x16_3).f0) == t117) = false := beq_eq_false_iff_ne.mpr c49
                    have c49b1 : (((rd_T33 l0_1 x16_3).f0) != t117) = true := bne_iff_ne.mpr c49
                    have H' := Aside0.mk H
                    clear H
                    have hcz62_0 : wr.cell? ⟨gb101, 0, none⟩ = some (.int .i64 a0_0) := (blk_cell BK101.out 0).trans rfl
                    have hcz62_1 : wr.cell? ⟨gb101, 1, none⟩ = some (.slice A0_1 l0_1.length c0_1) := (blk_cell BK101.out 1).trans rfl
                    have hfz62_0 := blk_frozen BK101.out 0
                    have hfz62_1 := blk_frozen BK101.out 1
                    have p120 : 0 ≤ (x16_3 : Int) := ua
                    have q120 : x16_3 < (l0_1.length : Int) := ua
                    obtain ⟨ad120, e120, hx120_0, hx120_1, hx120_2, hx120_3, hx120_4⟩ := at_T33 HR0_1.out x16_3 p120 q120
                    cases e120
                    replace hx120_0 := (HB.out.cell (World.block_lt_of_cell? w _ hx120_0)).trans hx120_0
                    replace hx120_1 := (HB.out.cell (World.block_lt_of_cell? w _ hx120_1)).trans hx120_1
                    replace hx120_2 := (HB.out.cell (World.block_lt_of_cell? w _ hx120_2)).trans hx120_2
                    replace hx120_3 := (HB.out.cell (World.block_lt_of_cell? w _ hx120_3)).trans hx120_3
                    replace hx120_4 := (HB.out.cell (World.block_lt_of_cell? w _ hx120_4)).trans hx120_4
                    replace p120 := eq_true p120
                    replace q120 := eq_true q120
                    try go_wp2_with (first | ((with_reducible refine gate_dst (N := 17) rfl ?_); refine box_event ?hg (N := 17) ?hd (cs := #[.int .i64 0, .int .i64 0, .int .i64 0, .int .i64 0, .int .i64 0]) (t := 33) ?hr ?_; (case hd => rfl); (case hg => rfl); (case hr => first | (go_simp; done) | (go_simp; rfl)); intro gb121 hg w63 hbox hb; have n0_ := Aside0.mk (Kd.R_below (ur HO_10) hb); have n1_ := Aside0.mk (Kd.R_below (ur HO_11) hb); have n2_ := Aside0.mk (Kd.R_below (ur HO_12) hb); have n3_ := Aside0.mk (blk_below (g := gb101) (o := .cells #[.int .i64 a0_0, .slice (some ad120) l0_1.length c0_1] 25 (0, 0)) (ub BK101) hb); have n4_ := Aside0.mk (below_step (uB1 HB GE101.out) hb); have n5_ := Aside0.mk (hbox); have n6_ := Aside0.mk ((by rw [hg]; exact (below_size (uB1 HB GE101.out)) : w.heap.size ≤ gb121)); have n7_ := Aside0.mk ((by rw [hg]; exact (below_size (uB1 HB GE101.out)) : w.heap.size ≤ gb121)); have n8_ := Aside0.mk ((by rw [hg]; exact Nat.ne_of_lt (blk_lt (g := gb101) (o := .cells #[.int .i64 a0_0, .slice (some ad120) l0_1.length c0_1] 25 (0, 0)) (ub BK101)) : gb101 ≠ gb121)); have n9_ := Aside0.mk ((by rw [hg]; exact Nat.ne_of_gt (blk_lt (g := gb101) (o := .cells #[.int .i64 a0_0, .slice (some ad120) l0_1.length c0_1] 25 (0, 0)) (ub BK101)) : gb121 ≠ gb101)); clear HO_10; clear HO_11; clear HO_12; clear BK101; clear HB; have HO_10 := n0_; have HO_11 := n1_; have HO_12 := n2_; have BK101 := n3_; have HB := n4_; have BK121 := n5_; have GW121 := n6_; have GE121 := n7_; have NB101_121 := n8_; have NB121_101 := n9_; clear n0_ n1_ n2_ n3_ n4_ n5_ n6_ n7_ n8_ n9_; clear hb hbox hg; have hnb64 := NB121_101.out; have hnc64 := NB101_121.out; have hcz65_0 : w63.cell? ⟨gb121, 0, none⟩ = some (.int .i64 0) := (blk_cell BK121.out 0).trans rfl; have hcz65_1 : w63.cell? ⟨gb121, 1, none⟩ = some (.int .i64 0) := (blk_cell BK121.out 1).trans rfl; have hcz65_2 : w63.cell? ⟨gb121, 2, none⟩ = some (.int .i64 0) := (blk_cell BK121.out 2).trans rfl; have hcz65_3 : w63.cell? ⟨gb121, 3, none⟩ = some (.int .i64 0) := (blk_cell BK121.out 3).trans rfl; have hcz65_4 : w63.cell? ⟨gb121, 4, none⟩ = some (.int .i64 0) := (blk_cell BK121.out 4).trans rfl; have hfz65_0 := blk_frozen BK121.out 0; have hfz65_1 := blk_frozen BK121.out 1; have hfz65_2 := blk_frozen BK121.out 2; have hfz65_3 := blk_frozen BK121.out 3; have hfz65_4 := blk_frozen BK121.out 4))
                    have n0_ : Aside0 (Kd.R (Kd.int .i64) 3 (((((w63.setCell ⟨gb121, 0, none⟩ (.int .i64 ((rd_T33 l0_1 x16_3).f0))).setCell ⟨gb121, 1, none⟩ (.int .i64 ((rd_T33 l0_1 x16_3).f1))).setCell ⟨gb121, 2, none⟩ (.int .i64 ((rd_T33 l0_1 x16_3).f2))).setCell ⟨gb121, 3, none⟩ (.int .i64 ((rd_T33 l0_1 x16_3).f3))).setCell ⟨gb121, 4, none⟩ (.int .i64 ((rd_T33 l0_1 x16_3).f4))) w.heap.size (fun k_ => some k_ ≠ (.slice Ao38 x11_1.length co38 : Value).ownBlock) (.slice (some ⟨go31, 0, none⟩) x10_3.length co31) x10_3) := ⟨by (with_reducible repeat (first | apply Kd.R_alloc | apply Kd.R_drewN | apply Kd.R_drew)); exact Kd.R_mono (Kd.R_far (p := ⟨gb121, 4, none⟩) (Kd.R_far (p := ⟨gb121, 3, none⟩) (Kd.R_far (p := ⟨gb121, 2, none⟩) (Kd.R_far (p := ⟨gb121, 1, none⟩) (Kd.R_far (p := ⟨gb121, 0, none⟩) (Kd.R_types HO_10.out BK121.out (by decide)) (fun _ hk => hk.2) (.int .i64 ((rd_T33 l0_1 x16_3).f0))) (fun _ hk => hk.2) (.int .i64 ((rd_T33 l0_1 x16_3).f1))) (fun _ hk => hk.2) (.int .i64 ((rd_T33 l0_1 x16_3).f2))) (fun _ hk => hk.2) (.int .i64 ((rd_T33 l0_1 x16_3).f3))) (fun _ hk => hk.2) (.int .i64 ((rd_T33 l0_1 x16_3).f4))) (fun _ hk => hk.1)⟩
                    have n1_ : Aside0 (Kd.R (Kd.int .i64) 3 (((((w63.setCell ⟨gb121, 0, none⟩ (.int .i64 ((rd_T33 l0_1 x16_3).f0))).setCell ⟨gb121, 1, none⟩ (.int .i64 ((rd_T33 l0_1 x16_3).f1))).setCell ⟨gb121, 2, none⟩ (.int .i64 ((rd_T33 l0_1 x16_3).f2))).setCell ⟨gb121, 3, none⟩ (.int .i64 ((rd_T33 l0_1 x16_3).f3))).setCell ⟨gb121, 4, none⟩ (.int .i64 ((rd_T33 l0_1 x16_3).f4))) w.heap.size (fun k_ => some k_ ≠ (.slice (some ⟨go31, 0, none⟩) x10_3.length co31 : Value).ownBlock) (.slice Ao38 x11_1.length co38) x11_1) := ⟨by (with_reducible repeat (first | apply Kd.R_alloc | apply Kd.R_drewN | apply Kd.R_drew)); exact Kd.R_mono (Kd.R_far (p := ⟨gb121, 4, none⟩) (Kd.R_far (p := ⟨gb121, 3, none⟩) (Kd.R_far (p := ⟨gb121, 2, none⟩) (Kd.R_far (p := ⟨gb121, 1, none⟩) (Kd.R_far (p := ⟨gb121, 0, none⟩) (Kd.R_types HO_11.out BK121.out (by decide)) (fun _ hk => hk.2) (.int .i64 ((rd_T33 l0_1 x16_3).f0))) (fun _ hk => hk.2) (.int .i64 ((rd_T33 l0_1 x16_3).f1))) (fun _ hk => hk.2) (.int .i64 ((rd_T33 l0_1 x16_3).f2))) (fun _ hk => hk.2) (.int .i64 ((rd_T33 l0_1 x16_3).f3))) (fun _ hk => hk.2) (.int .i64 ((rd_T33 l0_1 x16_3).f4))) (fun _ hk => hk.1)⟩
                    have n2_ : Aside0 (Kd.R Kd.bool 4 (((((w63.setCell ⟨gb121, 0, none⟩ (.int .i64 ((rd_T33 l0_1 x16_3).f0))).setCell ⟨gb121, 1, none⟩ (.int .i64 ((rd_T33 l0_1 x16_3).f1))).setCell ⟨gb121, 2, none⟩ (.int .i64 ((rd_T33 l0_1 x16_3).f2))).setCell ⟨gb121, 3, none⟩ (.int .i64 ((rd_T33 l0_1 x16_3).f3))).setCell ⟨gb121, 4, none⟩ (.int .i64 ((rd_T33 l0_1 x16_3).f4))) w.heap.size (fun _ => True) (.slice (some ⟨go43, 0, none⟩) y118.length co37) y118) := ⟨by (with_reducible repeat (first | apply Kd.R_alloc | apply Kd.R_drewN | apply Kd.R_drew)); exact Kd.R_mono (Kd.R_far (p := ⟨gb121, 4, none⟩) (Kd.R_far (p := ⟨gb121, 3, none⟩) (Kd.R_far (p := ⟨gb121, 2, none⟩) (Kd.R_far (p := ⟨gb121, 1, none⟩) (Kd.R_far (p := ⟨gb121, 0, none⟩) (Kd.R_types HO_12.out BK121.out (by decide)) (fun _ hk => hk.2) (.int .i64 ((rd_T33 l0_1 x16_3).f0))) (fun _ hk => hk.2) (.int .i64 ((rd_T33 l0_1 x16_3).f1))) (fun _ hk => hk.2) (.int .i64 ((rd_T33 l0_1 x16_3).f2))) (fun _ hk => hk.2) (.int .i64 ((rd_T33 l0_1 x16_3).f3))) (fun _ hk => hk.2) (.int .i64 ((rd_T33 l0_1 x16_3).f4))) (fun _ hk => trivial)⟩
                    have n3_ : Aside0 ((((((w63.setCell ⟨gb121, 0, none⟩ (.int .i64 ((rd_T33 l0_1 x16_3).f0))).setCell ⟨gb121, 1, none⟩ (.int .i64 ((rd_T33 l0_1 x16_3).f1))).setCell ⟨gb121, 2, none⟩ (.int .i64 ((rd_T33 l0_1 x16_3).f2))).setCell ⟨gb121, 3, none⟩ (.int .i64 ((rd_T33 l0_1 x16_3).f3))).setCell ⟨gb121, 4, none⟩ (.int .i64 ((rd_T33 l0_1 x16_3).f4))).heap[gb101]? = some (.cells #[.int .i64 a0_0, .slice (some ad120) l0_1.length c0_1] 25 (0, 0))) := ⟨by (with_reducible repeat (first | refine blk_drewN ?_ _ | refine blk_drew ?_ | refine blk_alloc ?_ _)); refine blk_far ?_ NB101_121.out _; (with_reducible repeat (first | refine blk_drewN ?_ _ | refine blk_drew ?_ | refine blk_alloc ?_ _)); refine blk_far ?_ NB101_121.out _; (with_reducible repeat (first | refine blk_drewN ?_ _ | refine blk_drew ?_ | refine blk_alloc ?_ _)); refine blk_far ?_ NB101_121.out _; (with_reducible repeat (first | refine blk_drewN ?_ _ | refine blk_drew ?_ | refine blk_alloc ?_ _)); refine blk_far ?_ NB101_121.out _; (with_reducible repeat (first | refine blk_drewN ?_ _ | refine blk_drew ?_ | refine blk_alloc ?_ _)); refine blk_far ?_ NB101_121.out _; exact ub BK101⟩
                    have n4_ : Aside0 ((((((w63.setCell ⟨gb121, 0, none⟩ (.int .i64 ((rd_T33 l0_1 x16_3).f0))).setCell ⟨gb121, 1, none⟩ (.int .i64 ((rd_T33 l0_1 x16_3).f1))).setCell ⟨gb121, 2, none⟩ (.int .i64 ((rd_T33 l0_1 x16_3).f2))).setCell ⟨gb121, 3, none⟩ (.int .i64 ((rd_T33 l0_1 x16_3).f3))).setCell ⟨gb121, 4, none⟩ (.int .i64 ((rd_T33 l0_1 x16_3).f4))).heap[gb121]? = some (.cells #[.int .i64 ((rd_T33 l0_1 x16_3).f0), .int .i64 ((rd_T33 l0_1 x16_3).f1), .int .i64 ((rd_T33 l0_1 x16_3).f2), .int .i64 ((rd_T33 l0_1 x16_3).f3), .int .i64 ((rd_T33 l0_1 x16_3).f4)] 33 (0, 0))) := ⟨by (with_reducible repeat (first | refine blk_drewN ?_ _ | refine blk_drew ?_ | refine blk_alloc ?_ _)); refine blk_put (cs := #[.int .i64 ((rd_T33 l0_1 x16_3).f0), .int .i64 ((rd_T33 l0_1 x16_3).f1), .int .i64 ((rd_T33 l0_1 x16_3).f2), .int .i64 ((rd_T33 l0_1 x16_3).f3), .int .i64 0]) ?_ 4 _ rfl; (with_reducible repeat (first | refine blk_drewN ?_ _ | refine blk_drew ?_ | refine blk_alloc ?_ _)); refine blk_put (cs := #[.int .i64 ((rd_T33 l0_1 x16_3).f0), .int .i64 ((rd_T33 l0_1 x16_3).f1), .int .i64 ((rd_T33 l0_1 x16_3).f2), .int .i64 0, .int .i64 0]) ?_ 3 _ rfl; (with_reducible repeat (first | refine blk_drewN ?_ _ | refine blk_drew ?_ | refine blk_alloc ?_ _)); refine blk_put (cs := #[.int .i64 ((rd_T33 l0_1 x16_3).f0), .int .i64 ((rd_T33 l0_1 x16_3).f1), .int .i64 0, .int .i64 0, .int .i64 0]) ?_ 2 _ rfl; (with_reducible repeat (first | refine blk_drewN ?_ _ | refine blk_drew ?_ | refine blk_alloc ?_ _)); refine blk_put (cs := #[.int .i64 ((rd_T33 l0_1 x16_3).f0), .int .i64 0, .int .i64 0, .int .i64 0, .int .i64 0]) ?_ 1 _ rfl; (with_reducible repeat (first | refine blk_drewN ?_ _ | refine blk_drew ?_ | refine blk_alloc ?_ _)); refine blk_put (cs := #[.int .i64 0, .int .i64 0, .int .i64 0, .int .i64 0, .int .i64 0]) ?_ 0 _ rfl; exact ub BK121⟩
                    have n5_ : Aside0 (Below w.heap.size w (((((w63.setCell ⟨gb121, 0, none⟩ (.int .i64 ((rd_T33 l0_1 x16_3).f0))).setCell ⟨gb121, 1, none⟩ (.int .i64 ((rd_T33 l0_1 x16_3).f1))).setCell ⟨gb121, 2, none⟩ (.int .i64 ((rd_T33 l0_1 x16_3).f2))).setCell ⟨gb121, 3, none⟩ (.int .i64 ((rd_T33 l0_1 x16_3).f3))).setCell ⟨gb121, 4, none⟩ (.int .i64 ((rd_T33 l0_1 x16_3).f4)))) := ⟨uB2 HB GE101.out GE121.out⟩
                    (try clear HO_10)
                    (try clear HO_11)
                    (try clear HO_12)
                    (try clear BK101)
                    (try clear BK121)
                    (try clear HB)
                    generalize (((((w63.setCell ⟨gb121, 0, none⟩ (.int .i64 ((rd_T33 l0_1 x16_3).f0))).setCell ⟨gb121, 1, none⟩ (.int .i64 ((rd_T33 l0_1 x16_3).f1))).setCell ⟨gb121, 2, none⟩ (.int .i64 ((rd_T33 l0_1 x16_3).f2))).setCell ⟨gb121, 3, none⟩ (.int .i64 ((rd_T33 l0_1 x16_3).f3))).setCell ⟨gb121, 4, none⟩ (.int .i64 ((rd_T33 l0_1 x16_3).f4))) = w66 at n0_ n1_ n2_ n3_ n4_ n5_ ⊢
                    have HO_10 := n0_
                    have HO_11 := n1_
                    have HO_12 := n2_
                    have BK101 := n3_
                    have BK121 := n4_
                    have HB := n5_
                    clear n0_ n1_ n2_ n3_ n4_ n5_
                    have n0_ := Aside0.mk (Kd.R_drew HO_10.out)
                    have n1_ := Aside0.mk (Kd.R_drew HO_11.out)
                    have n2_ := Aside0.mk (Kd.R_drew HO_12.out)
                    have n3_ := Aside0.mk (blk_drew BK101.out)
                    have n4_ := Aside0.mk (blk_drew BK121.out)
                    have n5_ := Aside0.mk (below_drew1 HB.out)
                    clear HO_10
                    clear HO_11
                    clear HO_12
                    clear BK101
                    clear BK121
                    clear HB
                    have HO_10 := n0_
                    have HO_11 := n1_
                    have HO_12 := n2_
                    have BK101 := n3_
                    have BK121 := n4_
                    have HB := n5_
                    clear n0_ n1_ n2_ n3_ n4_ n5_
                    refine start_ (n := 19) (S := fun w' => w'.cell? ⟨gb121, 0, none⟩ = some (.int .i64 ((rd_T33 l0_1 x16_3).f0)) ∧ w'.cell? ⟨gb121, 1, none⟩ = some (.int .i64 ((rd_T33 l0_1 x16_3).f1)) ∧ w'.cell? ⟨gb121, 2, none⟩ = some (.int .i64 ((rd_T33 l0_1 x16_3).f2)) ∧ w'.cell? ⟨gb121, 3, none⟩ = some (.int .i64 ((rd_T33 l0_1 x16_3).f3)) ∧ w'.cell? ⟨gb121, 4, none⟩ = some (.int .i64 ((rd_T33 l0_1 x16_3).f4))) (ds := []) #[false, false, false, false, false, false, false, false, false, false, false, false, false, false, false, false, false, false, false] (by kernel_rfl) rfl rfl ⟨(blk_cell BK121.out 0).trans rfl, (blk_cell BK121.out 1).trans rfl, (blk_cell BK121.out 2).trans rfl, (blk_cell BK121.out 3).trans rfl, (blk_cell BK121.out 4).trans rfl⟩ (fun hHeld => ?_); refine with_tabW spec_l12Seek.tab22 spec_l12Seek.bits22 (fun HT_ HW_ => ?_)
                    generalize w66.drew = w67 at HO_10 HO_11 HO_12 BK101 BK121 HB hHeld ⊢
                    refine pure_ (i := 0) (N := some 78) (v := ?_) (a' := ?_) #[true, false, false, false, false, false, false, false, false, false, false, false, false, false, false, false, false, false, false] rfl rfl (any_of HT_.out (by kernel_rfl)) (fun _ _ _ h => h) (Or.inl ⟨by rfl, ?_⟩) ?_ ?_
                    rotate_left
                    ·
                     intro w'
                     go_simp
                     with_reducible rfl
                    rotate_left
                    ·
                     simp only [Act.put, List.setIfInBounds_toArray, List.set_cons_zero, List.set_cons_succ, i64_w, i32_w]
                     rfl
                    refine pure_ (i := 2) (N := some 80) (v := ?_) (a' := ?_) #[true, false, true, false, false, false, false, false, false, false, false, false, false, false, false, false, false, false, false] rfl rfl (any_of HT_.out (by kernel_rfl)) (fun _ _ _ h => h) (Or.inl ⟨by rfl, ?_⟩) ?_ ?_
                    rotate_left
                    ·
                     intro w'
                     go_simp
                     with_reducible rfl
                    rotate_left
                    ·
                     simp only [Act.put, List.setIfInBounds_toArray, List.set_cons_zero, List.set_cons_succ, i64_w, i32_w]
                     rfl
                    refine take_ (i := 1) (N := some 79) (v := ?_) (a' := ?_) #[true, true, true, false, false, false, false, false, false, false, false, false, false, false, false, false, false, false, false] rfl rfl (take_ofW HT_.out HW_.out (by kernel_rfl)) (fun _ _ _ h => h) (Or.inl ⟨by rfl, ?_⟩) hHeld ?_ ?_
                    rotate_left
                    ·
                     rintro w' ⟨s0, s1, s2, s3, s4⟩
                     go_simp
                     with_reducible rfl
                    rotate_left
                    ·
                     simp only [Act.put, List.setIfInBounds_toArray, List.set_cons_zero, List.set_cons_succ, i64_w, i32_w]
                     rfl
                    refine pure_ (i := 3) (N := some 81) (v := ?_) (a' := ?_) #[true, true, true, true, false, false, false, false, false, false, false, false, false, false, false, false, false, false, false] rfl rfl (any_of HT_.out (by kernel_rfl)) (fun _ _ _ h => h) (Or.inl ⟨by rfl, ?_⟩) ?_ ?_
                    rotate_left
                    ·
                     intro w'
                     go_simp
                     with_reducible rfl
                    rotate_left
                    ·
                     simp only [Act.put, List.setIfInBounds_toArray, List.set_cons_zero, List.set_cons_succ, i64_w, i32_w]
                     rfl
                    refine pure_ (i := 4) (N := some 82) (v := ?_) (a' := ?_) #[true, true, true, true, true, false, false, false, false, false, false, false, false, false, false, false, false, false, false] rfl rfl (any_of HT_.out (by kernel_rfl)) (fun _ _ _ h => h) (Or.inl ⟨by rfl, ?_⟩) ?_ ?_
                    rotate_left
                    ·
                     intro w'
                     go_simp
                     with_reducible rfl
                    rotate_left
                    ·
                     simp only [Act.put, List.setIfInBounds_toArray, List.set_cons_zero, List.set_cons_succ, i64_w, i32_w]
                     rfl
                    refine pure_ (i := 5) (N := some 83) (v := undef) (a' := ?_) #[true, true, true, true, true, true, false, false, false, false, false, false, false, false, false, false, false, false, false] rfl rfl (any_of HT_.out (by kernel_rfl)) (fun _ _ _ h => h) (Or.inr ⟨by rfl, rfl⟩) ?_ ?_
                    rotate_left
                    ·
                     simp only [Act.put, List.setIfInBounds_toArray, List.set_cons_zero, List.set_cons_succ, i64_w, i32_w]
                     rfl
                    refine pure_ (i := 6) (N := some 84) (v := undef) (a' := ?_) #[true, true, true, true, true, true, true, false, false, false, false, false, false, false, false, false, false, false, false] rfl rfl (any_of HT_.out (by kernel_rfl)) (fun _ _ _ h => h) (Or.inr ⟨by rfl, rfl⟩) ?_ ?_
                    rotate_left
                    ·
                     simp only [Act.put, List.setIfInBounds_toArray, List.set_cons_zero, List.set_cons_succ, i64_w, i32_w]
                     rfl
                    refine pure_ (i := 7) (N := some 85) (v := undef) (a' := ?_) #[true, true, true, true, true, true, true, true, false, false, false, false, false, false, false, false, false, false, false] rfl rfl (any_of HT_.out (by kernel_rfl)) (fun _ _ _ h => h) (Or.inr ⟨by rfl, rfl⟩) ?_ ?_
                    rotate_left
                    ·
                     simp only [Act.put, List.setIfInBounds_toArray, List.set_cons_zero, List.set_cons_succ, i64_w, i32_w]
                     rfl
                    refine pure_ (i := 8) (N := some 86) (v := undef) (a' := ?_) #[true, true, true, true, true, true, true, true, true, false, false, false, false, false, false, false, false, false, false] rfl rfl (any_of HT_.out (by kernel_rfl)) (fun _ _ _ h => h) (Or.inr ⟨by rfl, rfl⟩) ?_ ?_
                    rotate_left
                    ·
                     simp only [Act.put, List.setIfInBounds_toArray, List.set_cons_zero, List.set_cons_succ, i64_w, i32_w]
                     rfl
                    refine pure_ (i := 9) (N := some 87) (v := undef) (a' := ?_) #[true, true, true, true, true, true, true, true, true, true, false, false, false, false, false, false, false, false, false] rfl rfl (any_of HT_.out (by kernel_rfl)) (fun _ _ _ h => h) (Or.inr ⟨by rfl, rfl⟩) ?_ ?_
                    rotate_left
                    ·
                     simp only [Act.put, List.setIfInBounds_toArray, List.set_cons_zero, List.set_cons_succ, i64_w, i32_w]
                     rfl
                    refine pure_ (i := 10) (N := some 88) (v := undef) (a' := ?_) #[true, true, true, true, true, true, true, true, true, true, true, false, false, false, false, false, false, false, false] rfl rfl (any_of HT_.out (by kernel_rfl)) (fun _ _ _ h => h) (Or.inr ⟨by rfl, rfl⟩) ?_ ?_
                    rotate_left
                    ·
                     simp only [Act.put, List.setIfInBounds_toArray, List.set_cons_zero, List.set_cons_succ, i64_w, i32_w]
                     rfl
                    refine pure_ (i := 11) (N := some 89) (v := undef) (a' := ?_) #[true, true, true, true, true, true, true, true, true, true, true, true, false, false, false, false, false, false, false] rfl rfl (any_of HT_.out (by kernel_rfl)) (fun _ _ _ h => h) (Or.inr ⟨by rfl, rfl⟩) ?_ ?_
                    rotate_left
                    ·
                     simp only [Act.put, List.setIfInBounds_toArray, List.set_cons_zero, List.set_cons_succ, i64_w, i32_w]
                     rfl
                    refine pure_ (i := 12) (N := some 90) (v := undef) (a' := ?_) #[true, true, true, true, true, true, true, true, true, true, true, true, true, false, false, false, false, false, false] rfl rfl (any_of HT_.out (by kernel_rfl)) (fun _ _ _ h => h) (Or.inr ⟨by rfl, rfl⟩) ?_ ?_
                    rotate_left
                    ·
                     simp only [Act.put, List.setIfInBounds_toArray, List.set_cons_zero, List.set_cons_succ, i64_w, i32_w]
                     rfl
                    refine pure_ (i := 13) (N := some 91) (v := undef) (a' := ?_) #[true, true, true, true, true, true, true, true, true, true, true, true, true, true, false, false, false, false, false] rfl rfl (any_of HT_.out (by kernel_rfl)) (fun _ _ _ h => h) (Or.inr ⟨by rfl, rfl⟩) ?_ ?_
                    rotate_left
                    ·
                     simp only [Act.put, List.setIfInBounds_toArray, List.set_cons_zero, List.set_cons_succ, i64_w, i32_w]
                     rfl
                    refine pure_ (i := 14) (N := some 92) (v := undef) (a' := ?_) #[true, true, true, true, true, true, true, true, true, true, true, true, true, true, true, false, false, false, false] rfl rfl (any_of HT_.out (by kernel_rfl)) (fun _ _ _ h => h) (Or.inr ⟨by rfl, rfl⟩) ?_ ?_
                    rotate_left
                    ·
                     simp only [Act.put, List.setIfInBounds_toArray, List.set_cons_zero, List.set_cons_succ, i64_w, i32_w]
                     rfl
                    refine pure_ (i := 15) (N := some 93) (v := undef) (a' := ?_) #[true, true, true, true, true, true, true, true, true, true, true, true, true, true, true, true, false, false, false] rfl rfl (any_of HT_.out (by kernel_rfl)) (fun _ _ _ h => h) (Or.inr ⟨by rfl, rfl⟩) ?_ ?_
                    rotate_left
                    ·
                     simp only [Act.put, List.setIfInBounds_toArray, List.set_cons_zero, List.set_cons_succ, i64_w, i32_w]
                     rfl
                    refine pure_ (i := 16) (N := some 94) (v := undef) (a' := ?_) #[true, true, true, true, true, true, true, true, true, true, true, true, true, true, true, true, true, false, false] rfl rfl (any_of HT_.out (by kernel_rfl)) (fun _ _ _ h => h) (Or.inr ⟨by rfl, rfl⟩) ?_ ?_
                    rotate_left
                    ·
                     simp only [Act.put, List.setIfInBounds_toArray, List.set_cons_zero, List.set_cons_succ, i64_w, i32_w]
                     rfl
                    refine pure_ (i := 17) (N := some 95) (v := undef) (a' := ?_) #[true, true, true, true, true, true, true, true, true, true, true, true, true, true, true, true, true, true, false] rfl rfl (any_of HT_.out (by kernel_rfl)) (fun _ _ _ h => h) (Or.inr ⟨by rfl, rfl⟩) ?_ ?_
                    rotate_left
                    ·
                     simp only [Act.put, List.setIfInBounds_toArray, List.set_cons_zero, List.set_cons_succ, i64_w, i32_w]
                     rfl
                    refine pure_ (i := 18) (N := some 96) (v := ?_) (a' := ?_) #[true, true, true, true, true, true, true, true, true, true, true, true, true, true, true, true, true, true, true] rfl rfl (any_of HT_.out (by kernel_rfl)) (fun _ _ _ h => h) (Or.inl ⟨by rfl, ?_⟩) ?_ ?_
                    rotate_left
                    ·
                     intro w'
                     go_simp
                     with_reducible rfl
                    rotate_left
                    ·
                     simp only [Act.put, List.setIfInBounds_toArray, List.set_cons_zero, List.set_cons_succ, i64_w, i32_w]
                     rfl
                    refine done_ (done_of HT_.out (by kernel_rfl)) ?_
                    try go_wp2
                    (try simp only [← hl10_3, ← hl12_3])
                    go_roundg k3
                    case measure => have := HK1.out; have := HK2.out; have := HK3.out; omega
                    case rel => exact ⟨(x10_3), (wrap64 (x16_3 + 1)), ue, H', ⟨by have := HK1.out; have := HK2.out; have := HK3.out; omega⟩, ⟨by (try simp only [hl10_2]); (try simp only [hl10_3]); (try simp only [hl12_3]); exact ur HO_10⟩, ⟨by (try simp only [hl10_2]); (try simp only [hl10_3]); (try simp only [hl12_3]); exact ur HO_11⟩, ⟨by (try simp only [hl10_2]); (try simp only [hl10_3]); (try simp only [hl12_3]); exact ur HO_12⟩, ⟨by (try simp only [hl10_2]); (try simp only [hl10_3]); (try simp only [hl12_3]); exact ub BK101⟩, ⟨uB2 HB GE101.out GE121.out⟩⟩
                  ·
                   rw [if_neg c48] at H
                   exact absurd H (by simp)
                 ·
                  rw [if_neg c47] at H
                  have c47b0 : decide (x16_3 < (l0_1.length : Int)) = false := decide_eq_false c47
                  clear c47
                  have H' := Aside0.mk H
                  clear H
                  have hcz68_0 : wr.cell? ⟨gb101, 0, none⟩ = some (.int .i64 a0_0) := (blk_cell BK101.out 0).trans rfl
                  have hcz68_1 : wr.cell? ⟨gb101, 1, none⟩ = some (.slice A0_1 l0_1.length c0_1) := (blk_cell BK101.out 1).trans rfl
                  have hfz68_0 := blk_frozen BK101.out 0
                  have hfz68_1 := blk_frozen BK101.out 1
                  go_wp2
                  (try simp only [← hl10_2, ← hl10_3, ← hl12_3])
                  go_roundg k3
                  case measure => have := HK1.out; have := HK2.out; have := HK3.out; omega
                  case rel => exact ⟨(x10_3), (y118), ((wrap64 (x14_2 + 1))), ue, H', ⟨by have := HK1.out; have := HK2.out; have := HK3.out; omega⟩, ⟨by (try simp only [hl10_2]); (try simp only [hl10_3]); (try simp only [hl12_3]); exact ur HO_10⟩, ⟨by (try simp only [hl10_2]); (try simp only [hl10_3]); (try simp only [hl12_3]); exact ur HO_11⟩, ⟨by (try simp only [hl10_2]); (try simp only [hl10_3]); (try simp only [hl12_3]); exact ur HO_12⟩, ⟨by (try simp only [hl10_2]); (try simp only [hl10_3]); (try simp only [hl12_3]); exact ub BK101⟩, ⟨uB1 HB GE101.out⟩⟩
             ·
              rw [if_neg c42] at H
              exact absurd H (by simp)
            ·
             rw [if_neg c41] at H
             exact absurd H (by simp)
        ·
         rw [if_neg c30] at H
         exact absurd H (by simp)
       ·
        rw [if_neg c29] at H
        exact absurd H (by simp)
   ·
    rw [if_neg c7] at H
    exact absurd H (by simp)
  ·
   rw [if_neg c6] at H
   exact absurd H (by simp)
 ·
  rw [if_neg c5] at H
  exact absurd H (by simp)

end Go.Proofs.Ytjmpngfgfddpaaa.P
