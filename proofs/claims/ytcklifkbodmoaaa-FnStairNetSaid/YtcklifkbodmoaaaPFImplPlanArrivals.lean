-- written for this claim by a program (wip/gen/myprint.py over the print tool). Not trusted: Lean checks it.
import Derived.Test.YtcklifkbodmoaaaPx0
import Derived.Test.YtcklifkbodmoaaaHUp
import Derived.Test.YtcklifkbodmoaaaPFSlicesClipIntInt
import Derived.Test.YtcklifkbodmoaaaHRepeatB
namespace Go.Proofs.Ytcklifkbodmoaaa.P
open Go.RowKit Go.Proofs.YtcklifkbodmoaaaV.PrintWords Go.Proofs.YtcklifkbodmoaaaV.PrintLast
set_option linter.unusedVariables false
set_option linter.unusedSimpArgs false

/-! ### impl_Plan_arrivals: function 63 -/
def impl_Plan_arrivals.l0 : Nat → List Int → Int → Int → Int → List Int → List (S32) → Int → Int → Option (List Int)
 | 0, _, _, _, _, _, _, _, _ => none
 | k + 1, x1, x2, x3, x4, x11, x19, x20, x21 => if x21 < x20 then (if 0 ≤ x21 then (if x21 < (x19.length : Int) then (if x21 < (x1.length : Int) then (if (rd x1 x21) ≤ x4 then (if 0 ≤ ((rd_T32 x19 x21).f1) then (if ((rd_T32 x19 x21).f1) < (x11.length : Int) then (impl_Plan_arrivals.l0 k x1 x2 x3 x4 (x11.set (((rd_T32 x19 x21).f1) : Int).toNat (mn (rd x11 ((rd_T32 x19 x21).f1)) ((rd_T32 x19 x21).f3))) x19 x20 (wrap64 (x21 + 1))) else (none)) else (none)) else (impl_Plan_arrivals.l0 k x1 x2 x3 x4 x11 x19 x20 (wrap64 (x21 + 1)))) else (none)) else (none)) else (none)) else (if 0 ≤ x2 then (if x2 < (x11.length : Int) then ((slices_Clip_int_int.f (x11.set (x2 : Int).toNat x3)).bind fun t114 => (some t114)) else (none)) else (none))
def impl_Plan_arrivals.f (k : Nat) (a0_0 : Int) (a0_1 : Int) (l0_2 : List (S32)) (l1 : List Int) (a2 : Int) (a3 : Int) (a4 : Int) : Option (List Int) := (slices_Repeat_int.f (([99999] : List Int)) a0_0).bind fun t105 => (impl_Plan_arrivals.l0 k l1 a2 a3 a4 t105 l0_2 (l0_2.length : Int) 0)
def impl_Plan_arrivals.T6 : Bool × List (List Nat × List Nat) := (true, [([], []), ([], []), ([1], [1]), ([], []), ([], []), ([4], [4]), ([3, 5], [3, 5]), ([6], [6]), ([], []), ([8], [8]), ([7, 9], [7, 9]), ([0, 2, 0, 1, 2, 3, 4, 5, 6, 7, 8, 9, 10], [0, 2]), ([11, 10, 0, 1, 2, 3, 4, 5, 6, 7, 8, 9, 10], [10, 11])])
def impl_Plan_arrivals.B6 : List Nat := [0, 0, 2, 0, 0, 16, 56, 120, 0, 256, 1016, 2047, 4095]
theorem impl_Plan_arrivals.tab6 : rtab .any (opsOf Try.f63 6) = impl_Plan_arrivals.T6 := by kernel_rfl
theorem impl_Plan_arrivals.bits6 : waitsOk impl_Plan_arrivals.T6.2 impl_Plan_arrivals.B6 = true := by kernel_rfl
set_option maxHeartbeats 8000000 in
set_option maxRecDepth 100000 in
theorem impl_Plan_arrivals.calls (k : Nat) (a0_0 : Int) (a0_1 : Int) (A0_2 : Option Addr) (c0_2 : Nat) (l0_2 : List (S32)) (A1 : Option Addr) (c1 : Nat) (l1 : List Int) (a2 : Int) (a3 : Int) (a4 : Int) (r : List Int) (w : World) (hr0_2 : Kd.C k32 w A0_2 l0_2.length l0_2) (hc0_2 : l0_2.length ≤ c0_2) (hr1 : Kd.C (Kd.int .i64) w A1 l1.length l1) (hc1 : l1.length ≤ c1) (h : impl_Plan_arrivals.f k a0_0 a0_1 l0_2 l1 a2 a3 a4 = some r) :
  Calls Try.prog 63 #[.agg #[.int .i64 a0_0, .int .i64 a0_1, .slice A0_2 l0_2.length c0_2], .slice A1 l1.length c1, .int .i64 a2, .int .i64 a3, .int .i64 a4] w fun e w' => ∃ v0_ : Value, e = .returned (v0_) ∧ Kd.R (Kd.int .i64) 3 w' w.heap.size (fun _ => True) v0_ r ∧ Below w.heap.size w w' := by
 have hu25 := Try.underlying25
 have hu32 := Try.underlying32
 have HR0_2 := Aside0.mk hr0_2
 have HC0_2 := Aside0.mk hc0_2
 clear hr0_2 hc0_2
 have HR1 := Aside0.mk hr1
 have HC1 := Aside0.mk hc1
 clear hr1 hc1
 have HB := Aside0.mk (Below.refl w.heap.size w)
 have H : ((slices_Repeat_int.f (([99999] : List Int)) a0_0).bind fun t105 => (impl_Plan_arrivals.l0 k l1 a2 a3 a4 t105 l0_2 (l0_2.length : Int) 0)) = some r := h
 clear h
 obtain ⟨y102, hy102⟩ : ∃ y_ : List Int, y_ = (([99999] : List Int)) := ⟨_, rfl⟩
 replace H : ((slices_Repeat_int.f y102 a0_0).bind fun t105 => (impl_Plan_arrivals.l0 k l1 a2 a3 a4 t105 l0_2 (l0_2.length : Int) 0)) = some r := by first | (rw [hy102]; with_reducible exact H) | (have H2_ := (Option.bind_some _ _).symm.trans H; rw [hy102]; with_reducible exact H2_) | (have H2_ := (Option.bind_some _ _).symm.trans H; with_reducible exact H2_) | with_reducible exact H | (rw [hy102]; exact H) | exact H
 have Ny102 := Aside0.mk hy102
 clear hy102
 replace H := Option.bind_eq_some_iff.mp H
 obtain ⟨t105, A60, H⟩ := H
 replace H : (impl_Plan_arrivals.l0 k l1 a2 a3 a4 t105 l0_2 (l0_2.length : Int) 0) = some r := H
 have A6 := Aside0.mk A60
 clear A60
 have H' := Aside0.mk H
 clear H
 go_enter Try.func63, Try.ntmps63
 go_wp2_with (first | ((with_reducible refine gate_dst (N := 5) rfl ?_); refine be (cs := #[.int .i64 a0_0, .int .i64 a0_1, .slice A0_2 l0_2.length c0_2]) (t := 25) ?_; intro gb101 hg w7 hbox hb; have BK101 := Aside0.mk (hbox); have GW101 := gz w hg (uB0 HB); have GE101 := gz w hg (uB0 HB); replace HB := Aside0.mk (below_step (uB0 HB) hb); clear hb hbox hg) | ((with_reducible refine gate_dst (N := 14) rfl ?_); refine Kd.R_lit (Kd.int .i64) _ 3 ?hg (N := 14) ?hd (xs := ([99999] : List Int)) (inner := [.int .i64 99999]) (ok := fun _ => True) (okp := fun _ => True) ?hr ?hp (fun _ hk => hk) trivial (Below.refl _ _) (Nat.le_refl _) (by simp) ?_; (case hd => rfl); (case hg => rfl); (case hr => first | (go_simp; done) | (go_simp; rfl)); (case hp => exact (Reps.one (show Kd.M (Kd.int .i64) _ _ _ 99999 [.int .i64 99999] from rfl) (Reps.none _ _))); intro v103 w8 ho9 hb hg_ hnew_; clear hg_ hnew_; (rw [← Ny102.out] at ho9); have HO104 := Aside0.mk (Kd.R_lower ho9 (below_size (uB1 HB GE101.out))); replace BK101 := bb BK101 hb; replace HB := Aside0.mk (below_step (uB1 HB GE101.out) hb); clear hb ho9; obtain ⟨hcz10_0, hcz10_1, hcz10_2, hfz10_0, hfz10_1, hfz10_2⟩ := bc3 BK101; obtain ⟨Ao11, co11, eo11⟩ := Kd.R_slice HO104.out; subst eo11) | ((with_reducible refine gate_callee (f := 90) rfl ?_); refine goesL_ (some 17) rfl rfl Try.func90 (by kernel_rfl) rfl #[.slice Ao11 y102.length co11, .int .i64 a0_0] rfl ul ?_; (with_reducible refine (slices_Repeat_int.calls _ _ y102 a0_0 t105 _ ?side1 ?side2 A6.out).mono ?_); (case side1 => exact uD (Kd.R_reads' HO104.out).2.2); (case side2 => exact (Kd.R_reads' HO104.out).2.1); rintro e w12 ⟨v106, rfl, ho0, hb⟩; refine ⟨_, rfl, ?_⟩; have HO107 := Aside0.mk (Kd.R_lower (Kd.R_new' ho0 (Kd.R_lt (ur HO104))) (below_size (uB1 HB GE101.out))); replace HO104 := Aside0.mk (Kd.R_elder' (ur HO104) (Kd.R_base ho0) hb); replace BK101 := bb BK101 hb; replace HB := Aside0.mk (below_step (uB1 HB GE101.out) hb); (try clear hb); (try clear ho0); obtain ⟨hcz13_0, hcz13_1, hcz13_2, hfz13_0, hfz13_1, hfz13_2⟩ := bc3 BK101))
 go_loopg [21] k (fun kq v21 w' => ∃ (x11_1 : List Int) (x21_1 : Int), v21 = .int .i64 x21_1 ∧ Aside0 (impl_Plan_arrivals.l0 kq l1 a2 a3 a4 x11_1 l0_2 (l0_2.length : Int) x21_1 = some r) ∧ Aside0 (kq ≤ k) ∧ Aside0 (Kd.R (Kd.int .i64) 3 w' w.heap.size (fun _ => True) v106 x11_1) ∧ Aside0 (w'.heap[gb101]? = some (.cells #[.int .i64 a0_0, .int .i64 a0_1, (.slice A0_2 l0_2.length c0_2)] 25 (0, 0))) ∧ Aside0 (Below w.heap.size w w'))
 case atStart => exact ⟨(t105), (0), ue, H', ⟨Nat.le_refl _⟩, ⟨by (with_reducible repeat (first | apply Kd.R_alloc | apply Kd.R_drewN | apply Kd.R_drew)); exact Kd.R_mono HO107.out (fun _ hk => trivial)⟩, ⟨ub BK101⟩, ⟨uB1 HB GE101.out⟩⟩
 case round =>
  clear H'
  clear hcz10_0 hcz10_1 hcz10_2 hcz13_0 hcz13_1 hcz13_2 hfz10_0 hfz10_1 hfz10_2 hfz13_0 hfz13_1 hfz13_2
  obtain ⟨x11_1, x21_1, rfl, HA, HK1, HO_11, BK101, HB⟩ := hrel
  cases gk with
  | zero => exact absurd HA.out (by simp [impl_Plan_arrivals.l0])
  | succ k1 =>
   have H := HA.out; clear HA; simp only [impl_Plan_arrivals.l0] at H; by_cases c14 : x21_1 < (l0_2.length : Int)
   ·
    rw [if_pos c14] at H; have c14b0 := dl c14; clear c14; by_cases c15 : 0 ≤ x21_1
    ·
     rw [if_pos c15] at H; have c15b0 := de c15; clear c15; by_cases c16 : x21_1 < (l0_2.length : Int)
     ·
      rw [if_pos c16] at H; have c16b0 := dl c16; clear c16; by_cases c17 : x21_1 < (l1.length : Int)
      ·
       rw [if_pos c17] at H; have c17b0 := dl c17; clear c17; have HH_ := Aside0.mk H; clear H; have p108 : 0 ≤ (x21_1 : Int) := ua; have q108 : x21_1 < (l0_2.length : Int) := ua; obtain ⟨ad108, e108, hx108_0, hx108_1, hx108_2, hx108_3, hx108_4⟩ := at_T32 HR0_2.out x21_1 p108 q108
       cases e108
       replace hx108_0 := uc HB hx108_0; replace hx108_1 := uc HB hx108_1; replace hx108_2 := uc HB hx108_2; replace hx108_3 := uc HB hx108_3; replace hx108_4 := uc HB hx108_4; replace p108 := eq_true p108; replace q108 := eq_true q108; go_upto_region 5 with (((with_reducible refine gate_dst (N := 13) rfl ?_); refine be (cs := #[.int .i64 0, .int .i64 0, .int .i64 0, .int .i64 0, .int .i64 0]) (t := 32) ?_; intro gb109 hg w18 hbox hb; replace HO_11 := Aside0.mk (Kd.R_below (ur HO_11) hb); have BK109 := Aside0.mk (hbox); have GW109 := gz w hg (uB1 HB GE101.out); have GE109 := gz w hg (uB1 HB GE101.out); replace HB := Aside0.mk (below_step (uB1 HB GE101.out) hb); have NB101_109 := gl hg BK101; have NB109_101 := gr hg BK101; replace BK101 := bb BK101 hb; clear hb hbox hg; have hnb19 := NB109_101.out; have hnc19 := NB101_109.out; obtain ⟨hcz20_0, hcz20_1, hcz20_2, hcz20_3, hcz20_4, hfz20_0, hfz20_1, hfz20_2, hfz20_3, hfz20_4⟩ := bc5 BK109; have p110 : 0 ≤ (x21_1 : Int) := ua; have q110 : x21_1 < (l1.length : Int) := ua; obtain ⟨ad110, e110, hx110_0⟩ := Kd.at_int HR1.out x21_1 p110 q110; cases e110; have hn110_0 : ad110.block ≠ gb109 := Nat.ne_of_lt (Nat.lt_of_lt_of_le (by have := World.block_lt_of_cell? _ _ hx110_0; first | rwa [add_block] at this | exact this) GW109.out); have hn110_1 : ad110.block ≠ gb109 := Nat.ne_of_lt (Nat.lt_of_lt_of_le (by have := World.block_lt_of_cell? _ _ hx110_0; first | rwa [add_block] at this | exact this) GW109.out); have hn110_2 : ad110.block ≠ gb109 := Nat.ne_of_lt (Nat.lt_of_lt_of_le (by have := World.block_lt_of_cell? _ _ hx110_0; first | rwa [add_block] at this | exact this) GW109.out); have hn110_3 : ad110.block ≠ gb109 := Nat.ne_of_lt (Nat.lt_of_lt_of_le (by have := World.block_lt_of_cell? _ _ hx110_0; first | rwa [add_block] at this | exact this) GW109.out); have hn110_4 : ad110.block ≠ gb109 := Nat.ne_of_lt (Nat.lt_of_lt_of_le (by have := World.block_lt_of_cell? _ _ hx110_0; first | rwa [add_block] at this | exact this) GW109.out); replace hx110_0 := uc HB hx110_0; replace hx110_0 := (cell_far (p := ⟨gb109, 0, none⟩) (by first | (rw [add_block]; exact hn110_0) | (show (Addr.add _ _).block ≠ _; rw [add_block]; exact hn110_0) | exact hn110_0) (.int .i64 ((rd_T32 l0_2 x21_1).f0))).trans hx110_0; replace hx110_0 := (cell_far (p := ⟨gb109, 1, none⟩) (by first | (rw [add_block]; exact hn110_1) | (show (Addr.add _ _).block ≠ _; rw [add_block]; exact hn110_1) | exact hn110_1) (.int .i64 ((rd_T32 l0_2 x21_1).f1))).trans hx110_0; replace hx110_0 := (cell_far (p := ⟨gb109, 2, none⟩) (by first | (rw [add_block]; exact hn110_2) | (show (Addr.add _ _).block ≠ _; rw [add_block]; exact hn110_2) | exact hn110_2) (.int .i64 ((rd_T32 l0_2 x21_1).f2))).trans hx110_0; replace hx110_0 := (cell_far (p := ⟨gb109, 3, none⟩) (by first | (rw [add_block]; exact hn110_3) | (show (Addr.add _ _).block ≠ _; rw [add_block]; exact hn110_3) | exact hn110_3) (.int .i64 ((rd_T32 l0_2 x21_1).f3))).trans hx110_0; replace hx110_0 := (cell_far (p := ⟨gb109, 4, none⟩) (by first | (rw [add_block]; exact hn110_4) | (show (Addr.add _ _).block ≠ _; rw [add_block]; exact hn110_4) | exact hn110_4) (.int .i64 ((rd_T32 l0_2 x21_1).f4))).trans hx110_0; clear hn110_0; clear hn110_1; clear hn110_2; clear hn110_3; clear hn110_4; replace p110 := eq_true p110; replace q110 := eq_true q110))
       have H := HH_.out; clear HH_; by_cases c21 : (rd l1 x21_1) ≤ a4
       ·
        rw [if_pos c21] at H; have c21b0 := de c21; clear c21; by_cases c22 : 0 ≤ ((rd_T32 l0_2 x21_1).f1)
        ·
         rw [if_pos c22] at H; have c22b0 := de c22; clear c22; by_cases c23 : ((rd_T32 l0_2 x21_1).f1) < (x11_1.length : Int)
         ·
          rw [if_pos c23] at H; have c23b0 := dl c23; clear c23; obtain ⟨ji24, hji24⟩ : ∃ j_ : Int, (mn (rd x11_1 ((rd_T32 l0_2 x21_1).f1)) ((rd_T32 l0_2 x21_1).f3)) = j_ := ⟨_, rfl⟩
          replace H : (impl_Plan_arrivals.l0 k1 l1 a2 a3 a4 (x11_1.set (((rd_T32 l0_2 x21_1).f1) : Int).toNat (ji24)) l0_2 (l0_2.length : Int) (wrap64 (x21_1 + 1))) = some r := by first | (rw [hji24] at H; exact H) | (simp only [hji24] at H ⊢; exact H)
          have hji24_ : (if ((rd_T32 l0_2 x21_1).f3) < (rd x11_1 ((rd_T32 l0_2 x21_1).f1)) then ((rd_T32 l0_2 x21_1).f3) else (rd x11_1 ((rd_T32 l0_2 x21_1).f1))) = ji24 := hji24; obtain ⟨y112, hy112⟩ : ∃ y_ : List Int, y_ = (x11_1.set (((rd_T32 l0_2 x21_1).f1) : Int).toNat (ji24)) := ⟨_, rfl⟩
          replace H : (impl_Plan_arrivals.l0 k1 l1 a2 a3 a4 y112 l0_2 (l0_2.length : Int) (wrap64 (x21_1 + 1))) = some r := by first | (rw [hy112]; with_reducible exact H) | (have H2_ := (Option.bind_some _ _).symm.trans H; rw [hy112]; with_reducible exact H2_) | (have H2_ := (Option.bind_some _ _).symm.trans H; with_reducible exact H2_) | with_reducible exact H | (rw [hy112]; exact H) | exact H
          have Ny112 := Aside0.mk hy112; clear hy112; have H' := Aside0.mk H; clear H; try go_wp2
          have n0_ : Aside0 (Kd.R (Kd.int .i64) 3 (((((w18.setCell ⟨gb109, 0, none⟩ (.int .i64 ((rd_T32 l0_2 x21_1).f0))).setCell ⟨gb109, 1, none⟩ (.int .i64 ((rd_T32 l0_2 x21_1).f1))).setCell ⟨gb109, 2, none⟩ (.int .i64 ((rd_T32 l0_2 x21_1).f2))).setCell ⟨gb109, 3, none⟩ (.int .i64 ((rd_T32 l0_2 x21_1).f3))).setCell ⟨gb109, 4, none⟩ (.int .i64 ((rd_T32 l0_2 x21_1).f4))) w.heap.size (fun _ => True) v106 x11_1) := ⟨by (with_reducible repeat (first | apply Kd.R_alloc | apply Kd.R_drewN | apply Kd.R_drew)); exact Kd.R_mono (rf5 HO_11 BK109) (fun _ hk => trivial)⟩
          have n1_ : Aside0 ((((((w18.setCell ⟨gb109, 0, none⟩ (.int .i64 ((rd_T32 l0_2 x21_1).f0))).setCell ⟨gb109, 1, none⟩ (.int .i64 ((rd_T32 l0_2 x21_1).f1))).setCell ⟨gb109, 2, none⟩ (.int .i64 ((rd_T32 l0_2 x21_1).f2))).setCell ⟨gb109, 3, none⟩ (.int .i64 ((rd_T32 l0_2 x21_1).f3))).setCell ⟨gb109, 4, none⟩ (.int .i64 ((rd_T32 l0_2 x21_1).f4))).heap[gb101]? = some (.cells #[.int .i64 a0_0, .int .i64 a0_1, .slice (some ad108) l0_2.length c0_2] 25 (0, 0))) := ⟨by (with_reducible repeat first | apply zbn | apply zbd | apply zba); refine fa5 ?_ NB101_109; exact ub BK101⟩
          have n2_ : Aside0 ((((((w18.setCell ⟨gb109, 0, none⟩ (.int .i64 ((rd_T32 l0_2 x21_1).f0))).setCell ⟨gb109, 1, none⟩ (.int .i64 ((rd_T32 l0_2 x21_1).f1))).setCell ⟨gb109, 2, none⟩ (.int .i64 ((rd_T32 l0_2 x21_1).f2))).setCell ⟨gb109, 3, none⟩ (.int .i64 ((rd_T32 l0_2 x21_1).f3))).setCell ⟨gb109, 4, none⟩ (.int .i64 ((rd_T32 l0_2 x21_1).f4))).heap[gb109]? = some (.cells #[.int .i64 ((rd_T32 l0_2 x21_1).f0), .int .i64 ((rd_T32 l0_2 x21_1).f1), .int .i64 ((rd_T32 l0_2 x21_1).f2), .int .i64 ((rd_T32 l0_2 x21_1).f3), .int .i64 ((rd_T32 l0_2 x21_1).f4)] 32 (0, 0))) := ⟨by (with_reducible repeat first | apply zbn | apply zbd | apply zba); refine pu5 (.int .i64 0) (.int .i64 0) (.int .i64 0) (.int .i64 0) (.int .i64 0) ?_; exact ub BK109⟩
          have n3_ : Aside0 (Below w.heap.size w (((((w18.setCell ⟨gb109, 0, none⟩ (.int .i64 ((rd_T32 l0_2 x21_1).f0))).setCell ⟨gb109, 1, none⟩ (.int .i64 ((rd_T32 l0_2 x21_1).f1))).setCell ⟨gb109, 2, none⟩ (.int .i64 ((rd_T32 l0_2 x21_1).f2))).setCell ⟨gb109, 3, none⟩ (.int .i64 ((rd_T32 l0_2 x21_1).f3))).setCell ⟨gb109, 4, none⟩ (.int .i64 ((rd_T32 l0_2 x21_1).f4)))) := ⟨uB2 HB GE101.out GE109.out⟩
          (try clear HO_11); (try clear BK101); (try clear BK109); (try clear HB); generalize (((((w18.setCell ⟨gb109, 0, none⟩ (.int .i64 ((rd_T32 l0_2 x21_1).f0))).setCell ⟨gb109, 1, none⟩ (.int .i64 ((rd_T32 l0_2 x21_1).f1))).setCell ⟨gb109, 2, none⟩ (.int .i64 ((rd_T32 l0_2 x21_1).f2))).setCell ⟨gb109, 3, none⟩ (.int .i64 ((rd_T32 l0_2 x21_1).f3))).setCell ⟨gb109, 4, none⟩ (.int .i64 ((rd_T32 l0_2 x21_1).f4))) = w21 at n0_ n1_ n2_ n3_ ⊢; have HO_11 := n0_; have BK101 := n1_; have BK109 := n2_; have HB := n3_; clear n0_ n1_ n2_ n3_; replace HO_11 := Aside0.mk (Kd.R_drew HO_11.out); replace BK101 := Aside0.mk (blk_drew BK101.out); replace BK109 := Aside0.mk (blk_drew BK109.out); replace HB := Aside0.mk (below_drew1 HB.out); obtain ⟨Ao23, co23, eo23⟩ := Kd.R_slice HO_11.out; (subst eo23); have p111 : 0 ≤ (((rd_T32 l0_2 x21_1).f1) : Int) := ua; have q111 : ((rd_T32 l0_2 x21_1).f1) < (x11_1.length : Int) := ua; obtain ⟨ad111, e111, hx111_0⟩ := Kd.at_int (Kd.R_reads' HO_11.out).2.2 ((rd_T32 l0_2 x21_1).f1) p111 q111
          cases e111
          replace p111 := eq_true p111; replace q111 := eq_true q111; have p25 : 0 ≤ (((rd_T32 l0_2 x21_1).f1) : Int) := ua; have q25 : (((rd_T32 l0_2 x21_1).f1) : Int) < ((x11_1.length : Int) : Int) := ua; obtain ⟨go25, co25, eo25, gb25, gl25, cl25, HG25⟩ := Kd.R_form HO_11.out (by omega); (cases eo25); have GB25 := Aside0.mk gb25; have GG25 := Aside0.mk HG25; clear gb25 gl25 HG25; (simp only [add_plain] at hx111_0); obtain ⟨hx25_0, hf25_0⟩ := Kd.R_celln 0 HO_11.out (((rd_T32 l0_2 x21_1).f1) : Int) p25 q25; replace p25 := eq_true p25; replace q25 := eq_true q25; have HP24 := Kd.R_putn HO_11.out (((rd_T32 l0_2 x21_1).f1) : Int) ji24; rw [← Ny112.out] at HP24; have HQ24 := Aside0.mk HP24; clear HP24; refine start_ (n := 13) (S := fun w' => w'.cell? ⟨gb109, 0, none⟩ = some (.int .i64 ((rd_T32 l0_2 x21_1).f0)) ∧ w'.cell? ⟨gb109, 1, none⟩ = some (.int .i64 ((rd_T32 l0_2 x21_1).f1)) ∧ w'.cell? ⟨gb109, 2, none⟩ = some (.int .i64 ((rd_T32 l0_2 x21_1).f2)) ∧ w'.cell? ⟨gb109, 3, none⟩ = some (.int .i64 ((rd_T32 l0_2 x21_1).f3)) ∧ w'.cell? ⟨gb109, 4, none⟩ = some (.int .i64 ((rd_T32 l0_2 x21_1).f4)) ∧ w'.cell? ⟨go25, (((rd_T32 l0_2 x21_1).f1)).toNat, none⟩ = some (.int .i64 (rd x11_1 ((rd_T32 l0_2 x21_1).f1)))) (ds := [12]) (zt 13 0) (by kernel_rfl) rfl (by kernel_rfl) (b5x BK109 hx111_0) (fun hHeld => ?_); refine with_tabW impl_Plan_arrivals.tab6 impl_Plan_arrivals.bits6 (fun HT_ HW_ => ?_); generalize w21.drew = w22 at HO_11 BK101 BK109 HB GG25 HQ24 hf25_0 hx111_0 hx25_0 hHeld ⊢; refine qz HT_ 0 ?_; refine qz HT_ 1 ?_; refine qz HT_ 3 ?_; refine qz HT_ 4 ?_; refine qz HT_ 8 ?_; refine qt HT_ HW_ hHeld 2 ?_; refine qt HT_ HW_ hHeld 5 ?_; refine qz HT_ 6 ?_; refine qt HT_ HW_ hHeld 7 ?_; refine qt HT_ HW_ hHeld 9 ?_; refine qz HT_ 10 ?_; refine qz HT_ 11 ?_; refine last_ (i := 12) (N := none) (zt 13 8191) rfl rfl (one_of HT_.out (by kernel_rfl)) (by decide) (fun K hK => ?_); refine skip_ (w1 := ?_) (by rfl) rfl ?_ ?_; rotate_left
          ·
           go_simp; rfl
          refine hK.out _ _ ?_; clear hK K; refine done_ (done_of HT_.out (by kernel_rfl)) ?_; try go_wp2
          go_roundg k1
          case measure => have := HK1.out; omega
          case rel => exact ⟨(y112), (wrap64 (x21_1 + 1)), ue, H', ⟨by have := HK1.out; omega⟩, ⟨ur HQ24⟩, ⟨by (with_reducible repeat first | apply zbn | apply zbd | apply zba); refine blk_far ?_ (by have h_ := Kd.R_ne HO_11.out BK101.out (by decide); intro e_; exact h_ (by rw [e_]; rfl)) _; exact ub BK101⟩, ⟨uB3 HB GB25.out GE101.out GE109.out⟩⟩
         ·
          rw [if_neg c23] at H; exact absurd H (by simp)
        ·
         rw [if_neg c22] at H; exact absurd H (by simp)
       ·
        rw [if_neg c21] at H; have c21b0 := DE c21; clear c21; have H' := Aside0.mk H; clear H; go_wp2; go_roundg k1
        case measure => have := HK1.out; omega
        case rel => exact ⟨(x11_1), (wrap64 (x21_1 + 1)), ue, H', ⟨by have := HK1.out; omega⟩, ⟨by (with_reducible repeat (first | apply Kd.R_alloc | apply Kd.R_drewN | apply Kd.R_drew)); exact Kd.R_mono (rf5 HO_11 BK109) (fun _ hk => trivial)⟩, ⟨by (with_reducible repeat first | apply zbn | apply zbd | apply zba); refine fa5 ?_ NB101_109; exact ub BK101⟩, ⟨uB2 HB GE101.out GE109.out⟩⟩
      ·
       rw [if_neg c17] at H; exact absurd H (by simp)
     ·
      rw [if_neg c16] at H; exact absurd H (by simp)
    ·
     rw [if_neg c15] at H; exact absurd H (by simp)
   ·
    rw [if_neg c14] at H; have c14b0 := DL c14; clear c14; by_cases c26 : 0 ≤ a2
    ·
     rw [if_pos c26] at H; have c26b0 := de c26; clear c26; by_cases c27 : a2 < (x11_1.length : Int)
     ·
      rw [if_pos c27] at H; have c27b0 := dl c27; clear c27; obtain ⟨y113, hy113⟩ : ∃ y_ : List Int, y_ = (x11_1.set (a2 : Int).toNat a3) := ⟨_, rfl⟩
      replace H : ((slices_Clip_int_int.f y113).bind fun t114 => (some t114)) = some r := by first | (rw [hy113]; with_reducible exact H) | (have H2_ := (Option.bind_some _ _).symm.trans H; rw [hy113]; with_reducible exact H2_) | (have H2_ := (Option.bind_some _ _).symm.trans H; with_reducible exact H2_) | with_reducible exact H | (rw [hy113]; exact H) | exact H
      have Ny113 := Aside0.mk hy113; clear hy113; replace H := Option.bind_eq_some_iff.mp H; obtain ⟨t114, A290, H⟩ := H; replace H : (some t114) = some r := H; have A29 := Aside0.mk A290; clear A290; obtain rfl := Option.some.inj H; have p28 : 0 ≤ (a2 : Int) := ua; have q28 : (a2 : Int) < ((x11_1.length : Int) : Int) := ua; obtain ⟨go28, co28, eo28, gb28, gl28, cl28, HG28⟩ := Kd.R_form HO_11.out (by omega); (cases eo28); have GB28 := Aside0.mk gb28; have GG28 := Aside0.mk HG28; clear gb28 gl28 HG28; obtain ⟨hx28_0, hf28_0⟩ := Kd.R_celln 0 HO_11.out (a2 : Int) p28 q28; replace p28 := eq_true p28; replace q28 := eq_true q28; have HP30 := Kd.R_putg HO_11.out (a2 : Int) a3; go_wp2_with (first | ((with_reducible refine gate_store (t := 3) (p := 48) rfl ?_); refine store_event (t := 3) (p := 48) (v := ?vo_w31) (w1 := (wr.setCell ⟨go28, (a2 : Int).toNat, none⟩ (.int .i64 a3))) ?hg ?ho ?hn ?hr ?_; (case ho => rfl); (case hg => rfl); (case hn => rfl); (case hr => first | (go_simp; done) | (go_simp; rfl)); intro w31 hw; have hg : wr.grownBy w31 (some go28) := (by rw [hw]; exact HP30.2); have hp_ : Kd.R (Kd.int .i64) 3 w31 w.heap.size (fun _ => True) (.slice (some ⟨go28, 0, none⟩) x11_1.length co28) y113 := (by rw [hw, Ny113.out]; exact HP30.1); clear HP30; replace BK101 := bg BK101 hg (Kd.R_ne HO_11.out BK101.out (by decide)); replace HO_11 := Aside0.mk (hp_); replace HB := Aside0.mk ((by rw [hw]; exact below_set (HB.out) GB28.out : Below w.heap.size w w31)); clear hg hw hp_) | ((with_reducible refine gate_callee (f := 91) rfl ?_); refine goesL_ (some 50) rfl rfl Try.func91 (by kernel_rfl) rfl #[.slice (some ⟨go28, 0, none⟩) x11_1.length co28] rfl ul ?_; (with_reducible refine (slices_Clip_int_int.calls (fun k_ => some k_ = (.slice (some ⟨go28, 0, none⟩) x11_1.length co28 : Value).ownBlock) (.slice (some ⟨go28, 0, none⟩) x11_1.length co28) y113 t114 w _ ?side1 ?side2 A29.out).mono ?_); (case side1 => exact uB1 HB GE101.out); (case side2 => exact Kd.R_tight rfl HO_11.out); rintro e w32 ⟨v115, rfl, ho0, hb, hkp⟩; refine ⟨_, rfl, ?_⟩; replace BK101 := Aside0.mk (blk_kept (ub BK101) hkp (fun hs_ => (fun e_ => (Kd.R_ne HO_11.out BK101.out (by decide)) e_) hs_)); have HO116 := Aside0.mk (Kd.R_mono (ok' := fun k_ => True) ho0 (fun k_ hk_ => trivial)); replace HB := Aside0.mk (hb); clear HO_11; (try clear hb); (try clear hkp); (try clear ho0))); go_ret; exact ⟨_, by first | rfl | (simp [errW_none, errW_some] <;> rfl) | (simp [*, errW_none, errW_some] <;> rfl), by (with_reducible repeat (first | apply Kd.R_alloc | apply Kd.R_drewN | apply Kd.R_drew)); exact HO116.out, uB1 HB GE101.out⟩
     ·
      rw [if_neg c27] at H; exact absurd H (by simp)
    ·
     rw [if_neg c26] at H; exact absurd H (by simp)

end Go.Proofs.Ytcklifkbodmoaaa.P
