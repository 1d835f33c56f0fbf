-- written for this claim by a program (wip/gen/myprint.py over the print tool). Not trusted: Lean checks it.
import Derived.Test.YtcklifkbodmoaaaPx0
import Derived.Test.YtcklifkbodmoaaaHUp
import Derived.Test.YtcklifkbodmoaaaGPBase
import Derived.Test.YtcklifkbodmoaaaHRepeatB
namespace Go.Proofs.Ytcklifkbodmoaaa.P
open Go.RowKit Go.Proofs.YtcklifkbodmoaaaV.PrintWords Go.Proofs.YtcklifkbodmoaaaV.PrintLast
set_option linter.unusedVariables false
set_option linter.unusedSimpArgs false

/-! ### impl_Plan_rides: function 64 -/
mutual
def impl_Plan_rides.l0 : Nat → Int → Int → Int → List Int → Bool → Int → Int → List (S32) → Option (List Int)
 | 0, _, _, _, _, _, _, _, _ => none
 | k + 1, x1, x2, x7, x8, x9, x102000, x102001, x102002 => if x9 = true then (impl_Plan_rides.l1 k x1 x2 x7 x8 false x102002 (x102002.length : Int) 0 x102000 x102001 x102002) else (some x8)
def impl_Plan_rides.l1 : Nat → Int → Int → Int → List Int → Bool → List (S32) → Int → Int → Int → Int → List (S32) → Option (List Int)
 | 0, _, _, _, _, _, _, _, _, _, _, _ => none
 | k + 1, x1, x2, x7, x8, x9, x24, x25, x26, x102000, x102001, x102002 => if x26 < x25 then (if 0 ≤ x26 then (if x26 < (x24.length : Int) then (if ((rd_T32 x24 x26).f0) = x1 then (impl_Plan_rides.j2 k x1 x2 x7 x8 x9 x26 x7 x24 x25 x26 (decide (((rd_T32 x24 x26).f2) ≥ x2)) x102000 x102001 x102002 ((rd_T32 x24 x26).f0) ((rd_T32 x24 x26).f1) ((rd_T32 x24 x26).f2) ((rd_T32 x24 x26).f3) ((rd_T32 x24 x26).f4)) else (impl_Plan_rides.j2 k x1 x2 x7 x8 x9 x26 x7 x24 x25 x26 false x102000 x102001 x102002 ((rd_T32 x24 x26).f0) ((rd_T32 x24 x26).f1) ((rd_T32 x24 x26).f2) ((rd_T32 x24 x26).f3) ((rd_T32 x24 x26).f4))) else (none)) else (none)) else (impl_Plan_rides.l0 k x1 x2 x7 x8 x9 x102000 x102001 x102002)
def impl_Plan_rides.j2 : Nat → Int → Int → Int → List Int → Bool → Int → Int → List (S32) → Int → Int → Bool → Int → Int → List (S32) → Int → Int → Int → Int → Int → Option (List Int)
 | 0, _, _, _, _, _, _, _, _, _, _, _, _, _, _, _, _, _, _, _ => none
 | k + 1, x1, x2, x7, x8, x9, x10, x12, x24, x25, x26, x41, x102000, x102001, x102002, x110000, x110001, x110002, x110003, x110004 => if x41 = true then (impl_Plan_rides.j3 k x1 x2 x7 x8 x9 x10 1 x24 x25 x26 x102000 x102001 x102002 x110000 x110001 x110002 x110003 x110004) else (impl_Plan_rides.j3 k x1 x2 x7 x8 x9 x10 x12 x24 x25 x26 x102000 x102001 x102002 x110000 x110001 x110002 x110003 x110004)
def impl_Plan_rides.j3 : Nat → Int → Int → Int → List Int → Bool → Int → Int → List (S32) → Int → Int → Int → Int → List (S32) → Int → Int → Int → Int → Int → Option (List Int)
 | 0, _, _, _, _, _, _, _, _, _, _, _, _, _, _, _, _, _, _ => none
 | k + 1, x1, x2, x7, x8, x9, x10, x12, x24, x25, x26, x102000, x102001, x102002, x110000, x110001, x110002, x110003, x110004 => (impl_Plan_before.f k x102000 x102001 x102002 x10).bind fun t110 => (if t110 ≥ 0 then (if 0 ≤ t110 then (if t110 < (x8.length : Int) then (impl_Plan_rides.j4 k x1 x2 x7 x8 x9 x10 (mn x12 (rd x8 t110)) x24 x25 x26 x102000 x102001 x102002 x110000 x110001 x110002 x110003 x110004) else (none)) else (none)) else (impl_Plan_rides.j4 k x1 x2 x7 x8 x9 x10 x12 x24 x25 x26 x102000 x102001 x102002 x110000 x110001 x110002 x110003 x110004))
def impl_Plan_rides.j4 : Nat → Int → Int → Int → List Int → Bool → Int → Int → List (S32) → Int → Int → Int → Int → List (S32) → Int → Int → Int → Int → Int → Option (List Int)
 | 0, _, _, _, _, _, _, _, _, _, _, _, _, _, _, _, _, _, _ => none
 | k + 1, x1, x2, x7, x8, x9, x10, x12, x24, x25, x26, x102000, x102001, x102002, x110000, x110001, x110002, x110003, x110004 => impl_Plan_rides.l2 k x1 x2 x7 x8 x9 x10 x12 x24 x25 x26 x102002 (x102002.length : Int) 0 x102000 x102001 x102002 x110000 x110001 x110002 x110003 x110004
def impl_Plan_rides.l2 : Nat → Int → Int → Int → List Int → Bool → Int → Int → List (S32) → Int → Int → List (S32) → Int → Int → Int → Int → List (S32) → Int → Int → Int → Int → Int → Option (List Int)
 | 0, _, _, _, _, _, _, _, _, _, _, _, _, _, _, _, _, _, _, _, _, _ => none
 | k + 1, x1, x2, x7, x8, x9, x10, x12, x24, x25, x26, x54, x55, x56, x102000, x102001, x102002, x110000, x110001, x110002, x110003, x110004 => if x56 < x55 then (if 0 ≤ x56 then (if x56 < (x54.length : Int) then (if ((rd_T32 x54 x56).f1) = x110000 then (if (wrap64 (((rd_T32 x54 x56).f3) + x102001)) ≤ x110002 then (if x56 < (x8.length : Int) then (if (rd x8 x56) < x7 then (impl_Plan_rides.l2 k x1 x2 x7 x8 x9 x10 (mn x12 (wrap64 ((rd x8 x56) + 1))) x24 x25 x26 x54 x55 (wrap64 (x56 + 1)) x102000 x102001 x102002 x110000 x110001 x110002 x110003 x110004) else (impl_Plan_rides.l2 k x1 x2 x7 x8 x9 x10 x12 x24 x25 x26 x54 x55 (wrap64 (x56 + 1)) x102000 x102001 x102002 x110000 x110001 x110002 x110003 x110004)) else (none)) else (impl_Plan_rides.l2 k x1 x2 x7 x8 x9 x10 x12 x24 x25 x26 x54 x55 (wrap64 (x56 + 1)) x102000 x102001 x102002 x110000 x110001 x110002 x110003 x110004)) else (impl_Plan_rides.l2 k x1 x2 x7 x8 x9 x10 x12 x24 x25 x26 x54 x55 (wrap64 (x56 + 1)) x102000 x102001 x102002 x110000 x110001 x110002 x110003 x110004)) else (none)) else (none)) else (if 0 ≤ x10 then (if x10 < (x8.length : Int) then (if x12 < (rd x8 x10) then (impl_Plan_rides.l1 k x1 x2 x7 (x8.set (x10 : Int).toNat x12) true x24 x25 (wrap64 (x26 + 1)) x102000 x102001 x102002) else (impl_Plan_rides.l1 k x1 x2 x7 x8 x9 x24 x25 (wrap64 (x26 + 1)) x102000 x102001 x102002)) else (none)) else (none))
end
def impl_Plan_rides.f (k : Nat) (a0_0 : Int) (a0_1 : Int) (l0_2 : List (S32)) (a1 : Int) (a2 : Int) : Option (List Int) := (slices_Repeat_int.f (([17] : List Int)) (l0_2.length : Int)).bind fun t105 => (impl_Plan_rides.l0 k a1 a2 17 t105 true a0_0 a0_1 l0_2)
set_option maxHeartbeats 8000000 in
set_option maxRecDepth 100000 in
theorem impl_Plan_rides.calls (k : Nat) (a0_0 : Int) (a0_1 : Int) (A0_2 : Option Addr) (c0_2 : Nat) (l0_2 : List (S32)) (a1 : Int) (a2 : Int) (r : List Int) (w : World) (hr0_2 : Kd.C k32 w A0_2 l0_2.length l0_2) (hc0_2 : l0_2.length ≤ c0_2) (h : impl_Plan_rides.f k a0_0 a0_1 l0_2 a1 a2 = some r) :
  Calls Try.prog 64 #[.agg #[.int .i64 a0_0, .int .i64 a0_1, .slice A0_2 l0_2.length c0_2], .int .i64 a1, .int .i64 a2] w fun e w' => ∃ v0_ : Value, e = .returned (v0_) ∧ Kd.R (Kd.int .i64) 3 w' w.heap.size (fun _ => True) v0_ r ∧ Below w.heap.size w w' := by
 have hu25 := Try.underlying25
 have hu32 := Try.underlying32
 have HR0_2 := Aside0.mk hr0_2
 have HC0_2 := Aside0.mk hc0_2
 clear hr0_2 hc0_2
 have HB := Aside0.mk (Below.refl w.heap.size w)
 have H : ((slices_Repeat_int.f (([17] : List Int)) (l0_2.length : Int)).bind fun t105 => (impl_Plan_rides.l0 k a1 a2 17 t105 true a0_0 a0_1 l0_2)) = some r := h
 clear h
 obtain ⟨y102, hy102⟩ : ∃ y_ : List Int, y_ = (([17] : List Int)) := ⟨_, rfl⟩
 replace H : ((slices_Repeat_int.f y102 (l0_2.length : Int)).bind fun t105 => (impl_Plan_rides.l0 k a1 a2 17 t105 true a0_0 a0_1 l0_2)) = some r := by first | (rw [hy102]; with_reducible exact H) | (have H2_ := (Option.bind_some _ _).symm.trans H; rw [hy102]; with_reducible exact H2_) | (have H2_ := (Option.bind_some _ _).symm.trans H; with_reducible exact H2_) | with_reducible exact H | (rw [hy102]; exact H) | exact H
 have Ny102 := Aside0.mk hy102
 clear hy102
 replace H := Option.bind_eq_some_iff.mp H
 obtain ⟨t105, A40, H⟩ := H
 replace H : (impl_Plan_rides.l0 k a1 a2 17 t105 true a0_0 a0_1 l0_2) = some r := H
 have A4 := Aside0.mk A40
 clear A40
 have H' := Aside0.mk H
 clear H
 go_enter Try.func64, Try.ntmps64
 go_wp2_with (first | ((with_reducible refine gate_dst (N := 3) rfl ?_); refine be (cs := #[.int .i64 a0_0, .int .i64 a0_1, .slice A0_2 l0_2.length c0_2]) (t := 25) ?_; intro gb101 hg w5 hbox hb; have BK101 := Aside0.mk (hbox); have GW101 := gz w hg (uB0 HB); have GE101 := gz w hg (uB0 HB); replace HB := Aside0.mk (below_step (uB0 HB) hb); clear hb hbox hg) | ((with_reducible refine gate_dst (N := 17) rfl ?_); refine Kd.R_lit (Kd.int .i64) _ 3 ?hg (N := 17) ?hd (xs := ([17] : List Int)) (inner := [.int .i64 17]) (ok := fun _ => True) (okp := fun _ => True) ?hr ?hp (fun _ hk => hk) trivial (Below.refl _ _) (Nat.le_refl _) (by simp) ?_; (case hd => rfl); (case hg => rfl); (case hr => first | (go_simp; done) | (go_simp; rfl)); (case hp => exact (Reps.one (show Kd.M (Kd.int .i64) _ _ _ 17 [.int .i64 17] from rfl) (Reps.none _ _))); intro v103 w6 ho7 hb hg_ hnew_; clear hg_ hnew_; (rw [← Ny102.out] at ho7); have HO104 := Aside0.mk (Kd.R_lower ho7 (below_size (uB1 HB GE101.out))); replace BK101 := bb BK101 hb; replace HB := Aside0.mk (below_step (uB1 HB GE101.out) hb); clear hb ho7; obtain ⟨hcz8_0, hcz8_1, hcz8_2, hfz8_0, hfz8_1, hfz8_2⟩ := bc3 BK101; obtain ⟨Ao9, co9, eo9⟩ := Kd.R_slice HO104.out; subst eo9) | ((with_reducible refine gate_callee (f := 90) rfl ?_); refine goesL_ (some 21) rfl rfl Try.func90 (by kernel_rfl) rfl #[.slice Ao9 y102.length co9, .int .i64 (l0_2.length : Int)] rfl ul ?_; (with_reducible refine (slices_Repeat_int.calls _ _ y102 (l0_2.length : Int) t105 _ ?side1 ?side2 A4.out).mono ?_); (case side1 => exact uD (Kd.R_reads' HO104.out).2.2); (case side2 => exact (Kd.R_reads' HO104.out).2.1); rintro e w10 ⟨v106, rfl, ho0, hb⟩; refine ⟨_, rfl, ?_⟩; have HO107 := Aside0.mk (Kd.R_lower (Kd.R_new' ho0 (Kd.R_lt (ur HO104))) (below_size (uB1 HB GE101.out))); replace HO104 := Aside0.mk (Kd.R_elder' (ur HO104) (Kd.R_base ho0) hb); replace BK101 := bb BK101 hb; replace HB := Aside0.mk (below_step (uB1 HB GE101.out) hb); (try clear hb); (try clear ho0)))
 go_loopg [9] k (fun kq v9 w' => ∃ (x8_1 : List Int) (x9_1 : Bool), v9 = .bool x9_1 ∧ Aside0 (impl_Plan_rides.l0 kq a1 a2 17 x8_1 x9_1 a0_0 a0_1 l0_2 = some r) ∧ Aside0 (kq ≤ k) ∧ Aside0 (Kd.R (Kd.int .i64) 3 w' w.heap.size (fun _ => True) v106 x8_1) ∧ Aside0 (w'.heap[gb101]? = some (.cells #[.int .i64 a0_0, .int .i64 a0_1, (.slice A0_2 l0_2.length c0_2)] 25 (0, 0))) ∧ Aside0 (Below w.heap.size w w'))
 case atStart => exact ⟨(t105), (true), ue, H', ⟨Nat.le_refl _⟩, ⟨by (with_reducible repeat (first | apply Kd.R_alloc | apply Kd.R_drewN | apply Kd.R_drew)); exact Kd.R_mono HO107.out (fun _ hk => trivial)⟩, ⟨ub BK101⟩, ⟨uB1 HB GE101.out⟩⟩
 case round =>
  clear H'
  clear hcz8_0 hcz8_1 hcz8_2 hfz8_0 hfz8_1 hfz8_2
  obtain ⟨x8_1, x9_1, rfl, HA, HK1, HO_8, BK101, HB⟩ := hrel
  cases gk with
  | zero => exact absurd HA.out (by simp [impl_Plan_rides.l0])
  | succ k1 =>
   have H := HA.out; clear HA; simp only [impl_Plan_rides.l0] at H; by_cases c11 : x9_1 = true
   ·
    subst c11; rw [if_pos rfl] at H; have H' := Aside0.mk H; clear H; obtain ⟨hcz12_0, hcz12_1, hcz12_2, hfz12_0, hfz12_1, hfz12_2⟩ := bc3 BK101; go_wp2; go_loopg [9, 26] k1 (fun kq v9 v26 w' => ∃ (x8_2 : List Int) (x9_2 : Bool) (x26_2 : Int), v9 = .bool x9_2 ∧ v26 = .int .i64 x26_2 ∧ Aside0 (impl_Plan_rides.l1 kq a1 a2 17 x8_2 x9_2 l0_2 (l0_2.length : Int) x26_2 a0_0 a0_1 l0_2 = some r) ∧ Aside0 (kq ≤ k1) ∧ Aside0 (Kd.R (Kd.int .i64) 3 w' w.heap.size (fun _ => True) v106 x8_2) ∧ Aside0 (w'.heap[gb101]? = some (.cells #[.int .i64 a0_0, .int .i64 a0_1, (.slice A0_2 l0_2.length c0_2)] 25 (0, 0))) ∧ Aside0 (Below w.heap.size w w'))
    case atStart => exact ⟨(x8_1), (false), (0), ue, ue, H', ⟨Nat.le_refl _⟩, ⟨ur HO_8⟩, ⟨ub BK101⟩, ⟨uB1 HB GE101.out⟩⟩
    case round =>
     clear H'
     clear hcz12_0 hcz12_1 hcz12_2 hfz12_0 hfz12_1 hfz12_2
     obtain ⟨x8_2, x9_2, x26_2, rfl, rfl, HA, HK2, HO_8, BK101, HB⟩ := hrel
     cases gk with
     | zero => exact absurd HA.out (by simp [impl_Plan_rides.l1])
     | succ k2 =>
      have H := HA.out; clear HA; simp only [impl_Plan_rides.l1] at H; by_cases c13 : x26_2 < (l0_2.length : Int)
      ·
       rw [if_pos c13] at H; have c13b0 := dl c13; clear c13; by_cases c14 : 0 ≤ x26_2
       ·
        rw [if_pos c14] at H; have c14b0 := de c14; clear c14; by_cases c15 : x26_2 < (l0_2.length : Int)
        ·
         rw [if_pos c15] at H; have c15b0 := dl c15; clear c15; have HC16 := Aside0.mk H; clear H; have p108 : 0 ≤ (x26_2 : Int) := ua; have q108 : x26_2 < (l0_2.length : Int) := ua; obtain ⟨ad108, e108, hx108_0, hx108_1, hx108_2, hx108_3, hx108_4⟩ := at_T32 HR0_2.out x26_2 p108 q108
         cases e108
         replace hx108_0 := uc HB hx108_0; replace hx108_1 := uc HB hx108_1; replace hx108_2 := uc HB hx108_2; replace hx108_3 := uc HB hx108_3; replace hx108_4 := uc HB hx108_4; replace p108 := eq_true p108; replace q108 := eq_true q108; go_upto_region 10 with (((with_reducible refine gate_dst (N := 11) rfl ?_); refine be (cs := #[.int .i64 0, .int .i64 0, .int .i64 0, .int .i64 0, .int .i64 0]) (t := 32) ?_; intro gb109 hg w17 hbox hb; replace HO_8 := Aside0.mk (Kd.R_below (ur HO_8) hb); have BK109 := Aside0.mk (hbox); have GW109 := gz w hg (uB1 HB GE101.out); have GE109 := gz w hg (uB1 HB GE101.out); replace HB := Aside0.mk (below_step (uB1 HB GE101.out) hb); have NB101_109 := gl hg BK101; have NB109_101 := gr hg BK101; replace BK101 := bb BK101 hb; clear hb hbox hg; have hnb18 := NB109_101.out; have hnc18 := NB101_109.out; obtain ⟨hcz19_0, hcz19_1, hcz19_2, hcz19_3, hcz19_4, hfz19_0, hfz19_1, hfz19_2, hfz19_3, hfz19_4⟩ := bc5 BK109))
         go_cut [41] (fun v41 wc => ∃ (kq : Nat) (x41_15 : Bool), v41 = .bool x41_15 ∧ Aside0 (impl_Plan_rides.j2 kq a1 a2 17 x8_2 x9_2 x26_2 17 l0_2 (l0_2.length : Int) x26_2 x41_15 a0_0 a0_1 l0_2 ((rd_T32 l0_2 x26_2).f0) ((rd_T32 l0_2 x26_2).f1) ((rd_T32 l0_2 x26_2).f2) ((rd_T32 l0_2 x26_2).f3) ((rd_T32 l0_2 x26_2).f4) = some r) ∧ Aside0 (kq ≤ k2) ∧ Aside0 (Kd.R (Kd.int .i64) 3 wc w.heap.size (fun _ => True) v106 x8_2) ∧ Aside0 (wc.heap[gb101]? = some (.cells #[.int .i64 a0_0, .int .i64 a0_1, (.slice (some ad108) l0_2.length c0_2)] 25 (0, 0))) ∧ Aside0 (wc.heap[gb109]? = some (.cells #[.int .i64 ((rd_T32 l0_2 x26_2).f0), .int .i64 ((rd_T32 l0_2 x26_2).f1), .int .i64 ((rd_T32 l0_2 x26_2).f2), .int .i64 ((rd_T32 l0_2 x26_2).f3), .int .i64 ((rd_T32 l0_2 x26_2).f4)] 32 (0, 0))) ∧ Aside0 (Below w.heap.size w wc))
         case first =>
          have H := HC16.out; clear HC16; by_cases c20 : ((rd_T32 l0_2 x26_2).f0) = a1
          ·
           rw [if_pos c20] at H; obtain ⟨c20b0, c20b1⟩ := dq c20; clear c20; (skip); have H' := Aside0.mk H; clear H; have hnb21 := NB109_101.out; have hnc21 := NB101_109.out; obtain ⟨hcz22_0, hcz22_1, hcz22_2, hcz22_3, hcz22_4, hfz22_0, hfz22_1, hfz22_2, hfz22_3, hfz22_4⟩ := bc5 BK109; go_wp2; go_meet
           case rel => exact ⟨_, (decide (((rd_T32 l0_2 x26_2).f2) ≥ a2)), ue, H', ⟨by have := HK1.out; have := HK2.out; first | omega | exact Nat.le_refl _⟩, ⟨by (with_reducible repeat (first | apply Kd.R_alloc | apply Kd.R_drewN | apply Kd.R_drew)); exact Kd.R_mono (rf5 HO_8 BK109) (fun _ hk => trivial)⟩, ⟨by (with_reducible repeat first | apply zbn | apply zbd | apply zba); refine fa5 ?_ NB101_109; exact ub BK101⟩, ⟨by (with_reducible repeat first | apply zbn | apply zbd | apply zba); refine pu5 (.int .i64 0) (.int .i64 0) (.int .i64 0) (.int .i64 0) (.int .i64 0) ?_; exact ub BK109⟩, ⟨uB2 HB GE101.out GE109.out⟩⟩
          ·
           rw [if_neg c20] at H; obtain ⟨c20b0, c20b1⟩ := dQ c20; (skip); have H' := Aside0.mk H; clear H; have hnb23 := NB109_101.out; have hnc23 := NB101_109.out; obtain ⟨hcz24_0, hcz24_1, hcz24_2, hcz24_3, hcz24_4, hfz24_0, hfz24_1, hfz24_2, hfz24_3, hfz24_4⟩ := bc5 BK109; go_wp2; go_meet
           case rel => exact ⟨_, (false), ue, H', ⟨by have := HK1.out; have := HK2.out; first | omega | exact Nat.le_refl _⟩, ⟨by (with_reducible repeat (first | apply Kd.R_alloc | apply Kd.R_drewN | apply Kd.R_drew)); exact Kd.R_mono (rf5 HO_8 BK109) (fun _ hk => trivial)⟩, ⟨by (with_reducible repeat first | apply zbn | apply zbd | apply zba); refine fa5 ?_ NB101_109; exact ub BK101⟩, ⟨by (with_reducible repeat first | apply zbn | apply zbd | apply zba); refine pu5 (.int .i64 0) (.int .i64 0) (.int .i64 0) (.int .i64 0) (.int .i64 0) ?_; exact ub BK109⟩, ⟨uB2 HB GE101.out GE109.out⟩⟩
         case rest =>
          clear HC16
          clear c13b0 c14b0 c15b0 hcz19_0 hcz19_1 hcz19_2 hcz19_3 hcz19_4 hfz19_0 hfz19_1 hfz19_2 hfz19_3 hfz19_4 hx108_0 hx108_1 hx108_2 hx108_3 hx108_4 p108 q108
          obtain ⟨kq, x41_15, rfl, HA, HJ15, HO_8, BK101, BK109, HB⟩ := hcut
          cases kq with
          | zero => exact absurd HA.out (by simp [impl_Plan_rides.j2])
          | succ kj15 =>
           have H := HA.out; clear HA; simp only [impl_Plan_rides.j2] at H; have HC25 := Aside0.mk H; clear H; go_upto_if 41 with (fail)
           go_cut [12] (fun v12 wc => ∃ (kq : Nat) (x12_24 : Int), v12 = .int .i64 x12_24 ∧ Aside0 (impl_Plan_rides.j3 kq a1 a2 17 x8_2 x9_2 x26_2 x12_24 l0_2 (l0_2.length : Int) x26_2 a0_0 a0_1 l0_2 ((rd_T32 l0_2 x26_2).f0) ((rd_T32 l0_2 x26_2).f1) ((rd_T32 l0_2 x26_2).f2) ((rd_T32 l0_2 x26_2).f3) ((rd_T32 l0_2 x26_2).f4) = some r) ∧ Aside0 (kq ≤ kj15) ∧ Aside0 (Kd.R (Kd.int .i64) 3 wc w.heap.size (fun _ => True) v106 x8_2) ∧ Aside0 (wc.heap[gb101]? = some (.cells #[.int .i64 a0_0, .int .i64 a0_1, (.slice (some ad108) l0_2.length c0_2)] 25 (0, 0))) ∧ Aside0 (wc.heap[gb109]? = some (.cells #[.int .i64 ((rd_T32 l0_2 x26_2).f0), .int .i64 ((rd_T32 l0_2 x26_2).f1), .int .i64 ((rd_T32 l0_2 x26_2).f2), .int .i64 ((rd_T32 l0_2 x26_2).f3), .int .i64 ((rd_T32 l0_2 x26_2).f4)] 32 (0, 0))) ∧ Aside0 (Below w.heap.size w wc))
           case first =>
            have H := HC25.out; clear HC25; by_cases c26 : x41_15 = true
            ·
             subst c26; rw [if_pos rfl] at H; have H' := Aside0.mk H; clear H; go_wp2; go_meet
             case rel => exact ⟨_, (1), ue, H', ⟨by have := HK1.out; have := HK2.out; have := HJ15.out; first | omega | exact Nat.le_refl _⟩, ⟨ur HO_8⟩, ⟨ub BK101⟩, ⟨ub BK109⟩, ⟨uB2 HB GE101.out GE109.out⟩⟩
            ·
             replace c26 := Bool.eq_false_iff.mpr c26; subst c26; rw [if_neg (show ¬ (false = true) by decide)] at H; have H' := Aside0.mk H; clear H; go_wp2; go_meet
             case rel => exact ⟨_, (17), ue, H', ⟨by have := HK1.out; have := HK2.out; have := HJ15.out; first | omega | exact Nat.le_refl _⟩, ⟨ur HO_8⟩, ⟨ub BK101⟩, ⟨ub BK109⟩, ⟨uB2 HB GE101.out GE109.out⟩⟩
           case rest =>
            clear HC25
            obtain ⟨kq, x12_24, rfl, HA, HJ24, HO_8, BK101, BK109, HB⟩ := hcut
            cases kq with
            | zero => exact absurd HA.out (by simp [impl_Plan_rides.j3])
            | succ kj24 =>
             have H := HA.out; clear HA; simp only [impl_Plan_rides.j3] at H; replace H := Option.bind_eq_some_iff.mp H; obtain ⟨t110, A270, H⟩ := H; replace H : (if t110 ≥ 0 then (if 0 ≤ t110 then (if t110 < (x8_2.length : Int) then (impl_Plan_rides.j4 kj24 a1 a2 17 x8_2 x9_2 x26_2 (mn x12_24 (rd x8_2 t110)) l0_2 (l0_2.length : Int) x26_2 a0_0 a0_1 l0_2 ((rd_T32 l0_2 x26_2).f0) ((rd_T32 l0_2 x26_2).f1) ((rd_T32 l0_2 x26_2).f2) ((rd_T32 l0_2 x26_2).f3) ((rd_T32 l0_2 x26_2).f4)) else (none)) else (none)) else (impl_Plan_rides.j4 kj24 a1 a2 17 x8_2 x9_2 x26_2 x12_24 l0_2 (l0_2.length : Int) x26_2 a0_0 a0_1 l0_2 ((rd_T32 l0_2 x26_2).f0) ((rd_T32 l0_2 x26_2).f1) ((rd_T32 l0_2 x26_2).f2) ((rd_T32 l0_2 x26_2).f3) ((rd_T32 l0_2 x26_2).f4))) = some r := H; have A27 := Aside0.mk A270; clear A270; have HC28 := Aside0.mk H; clear H; have hnb29 := NB101_109.out; have hnc29 := NB109_101.out; obtain ⟨hcz30_0, hcz30_1, hcz30_2, hfz30_0, hfz30_1, hfz30_2⟩ := bc3 BK101; go_upto_if 46 with (((with_reducible refine gate_callee (f := 71) rfl ?_); refine goesL_ (some 44) rfl rfl Try.func71 (by kernel_rfl) rfl #[.agg #[.int .i64 a0_0, .int .i64 a0_1, .slice (some ad108) l0_2.length c0_2], .int .i64 x26_2] rfl ul ?_; (with_reducible refine (impl_Plan_before.calls kj24 a0_0 a0_1 _ _ l0_2 x26_2 t110 _ ?side1 ?side2 A27.out).mono ?_); (case side1 => exact uC HR0_2 HB); (case side2 => exact HC0_2.out); rintro e w31 ⟨rfl, hb⟩; refine ⟨_, rfl, ?_⟩; replace HO_8 := Aside0.mk (Kd.R_below (ur HO_8) hb); replace BK101 := bb BK101 hb; replace BK109 := bb BK109 hb; replace HB := Aside0.mk (below_step (uB2 HB GE101.out GE109.out) hb); (try clear hb)))
             go_cut [12] (fun v12 wc => ∃ (kq : Nat) (x12_27 : Int), v12 = .int .i64 x12_27 ∧ Aside0 (impl_Plan_rides.j4 kq a1 a2 17 x8_2 x9_2 x26_2 x12_27 l0_2 (l0_2.length : Int) x26_2 a0_0 a0_1 l0_2 ((rd_T32 l0_2 x26_2).f0) ((rd_T32 l0_2 x26_2).f1) ((rd_T32 l0_2 x26_2).f2) ((rd_T32 l0_2 x26_2).f3) ((rd_T32 l0_2 x26_2).f4) = some r) ∧ Aside0 (kq ≤ kj24) ∧ Aside0 (Kd.R (Kd.int .i64) 3 wc w.heap.size (fun _ => True) v106 x8_2) ∧ Aside0 (wc.heap[gb101]? = some (.cells #[.int .i64 a0_0, .int .i64 a0_1, (.slice (some ad108) l0_2.length c0_2)] 25 (0, 0))) ∧ Aside0 (wc.heap[gb109]? = some (.cells #[.int .i64 ((rd_T32 l0_2 x26_2).f0), .int .i64 ((rd_T32 l0_2 x26_2).f1), .int .i64 ((rd_T32 l0_2 x26_2).f2), .int .i64 ((rd_T32 l0_2 x26_2).f3), .int .i64 ((rd_T32 l0_2 x26_2).f4)] 32 (0, 0))) ∧ Aside0 (Below w.heap.size w wc))
             case first =>
              have H := HC28.out; clear HC28; by_cases c32 : t110 ≥ 0
              ·
               rw [if_pos c32] at H; have c32b0 := de c32; clear c32; (rw [c32b0]); by_cases c33 : 0 ≤ t110
               ·
                rw [if_pos c33] at H; have c33b0 := de c33; clear c33; by_cases c34 : t110 < (x8_2.length : Int)
                ·
                 rw [if_pos c34] at H; have c34b0 := dl c34; clear c34; obtain ⟨ji35, hji35⟩ : ∃ j_ : Int, (mn x12_24 (rd x8_2 t110)) = j_ := ⟨_, rfl⟩
                 replace H : (impl_Plan_rides.j4 kj24 a1 a2 17 x8_2 x9_2 x26_2 ji35 l0_2 (l0_2.length : Int) x26_2 a0_0 a0_1 l0_2 ((rd_T32 l0_2 x26_2).f0) ((rd_T32 l0_2 x26_2).f1) ((rd_T32 l0_2 x26_2).f2) ((rd_T32 l0_2 x26_2).f3) ((rd_T32 l0_2 x26_2).f4)) = some r := by first | (rw [hji35] at H; exact H) | (simp only [hji35] at H ⊢; exact H)
                 have hji35_ : (if (rd x8_2 t110) < x12_24 then (rd x8_2 t110) else x12_24) = ji35 := hji35; have H' := Aside0.mk H; clear H; obtain ⟨Ao36, co36, eo36⟩ := Kd.R_slice HO_8.out; subst eo36; have p111 : 0 ≤ (t110 : Int) := ua; have q111 : t110 < (x8_2.length : Int) := ua; obtain ⟨ad111, e111, hx111_0⟩ := Kd.at_int (Kd.R_reads' HO_8.out).2.2 t110 p111 q111
                 cases e111
                 replace p111 := eq_true p111; replace q111 := eq_true q111; go_wp2; go_meet
                 case rel => exact ⟨_, (ji35), (by first | rfl | (simp; done) | (simp only [← hji35] <;> (first | rfl | simp)) | (simp [*]; done)), H', ⟨by have := HK1.out; have := HK2.out; have := HJ15.out; have := HJ24.out; first | omega | exact Nat.le_refl _⟩, ⟨ur HO_8⟩, ⟨ub BK101⟩, ⟨ub BK109⟩, ⟨uB2 HB GE101.out GE109.out⟩⟩
                ·
                 rw [if_neg c34] at H; exact absurd H (by simp)
               ·
                rw [if_neg c33] at H; exact absurd H (by simp)
              ·
               rw [if_neg c32] at H; have c32b0 := DE c32; clear c32; (rw [c32b0]); have H' := Aside0.mk H; clear H; go_wp2; go_meet
               case rel => exact ⟨_, (x12_24), ue, H', ⟨by have := HK1.out; have := HK2.out; have := HJ15.out; have := HJ24.out; first | omega | exact Nat.le_refl _⟩, ⟨ur HO_8⟩, ⟨ub BK101⟩, ⟨ub BK109⟩, ⟨uB2 HB GE101.out GE109.out⟩⟩
             case rest =>
              clear HC28
              clear hcz30_0 hcz30_1 hcz30_2 hfz30_0 hfz30_1 hfz30_2
              obtain ⟨kq, x12_27, rfl, HA, HJ27, HO_8, BK101, BK109, HB⟩ := hcut
              cases kq with
              | zero => exact absurd HA.out (by simp [impl_Plan_rides.j4])
              | succ kj27 =>
               have H := HA.out; clear HA; simp only [impl_Plan_rides.j4] at H; have H' := Aside0.mk H; clear H; have hnb37 := NB101_109.out; have hnc37 := NB109_101.out; obtain ⟨hcz38_0, hcz38_1, hcz38_2, hfz38_0, hfz38_1, hfz38_2⟩ := bc3 BK101; go_wp2; go_loopg [12, 56] kj27 (fun kq v12 v56 w' => ∃ (x12_6 : Int) (x56_6 : Int), v12 = .int .i64 x12_6 ∧ v56 = .int .i64 x56_6 ∧ Aside0 (impl_Plan_rides.l2 kq a1 a2 17 x8_2 x9_2 x26_2 x12_6 l0_2 (l0_2.length : Int) x26_2 l0_2 (l0_2.length : Int) x56_6 a0_0 a0_1 l0_2 ((rd_T32 l0_2 x26_2).f0) ((rd_T32 l0_2 x26_2).f1) ((rd_T32 l0_2 x26_2).f2) ((rd_T32 l0_2 x26_2).f3) ((rd_T32 l0_2 x26_2).f4) = some r) ∧ Aside0 (kq ≤ kj27) ∧ Aside0 (Kd.R (Kd.int .i64) 3 w' w.heap.size (fun _ => True) v106 x8_2) ∧ Aside0 (w'.heap[gb101]? = some (.cells #[.int .i64 a0_0, .int .i64 a0_1, (.slice (some ad108) l0_2.length c0_2)] 25 (0, 0))) ∧ Aside0 (w'.heap[gb109]? = some (.cells #[.int .i64 ((rd_T32 l0_2 x26_2).f0), .int .i64 ((rd_T32 l0_2 x26_2).f1), .int .i64 ((rd_T32 l0_2 x26_2).f2), .int .i64 ((rd_T32 l0_2 x26_2).f3), .int .i64 ((rd_T32 l0_2 x26_2).f4)] 32 (0, 0))) ∧ Aside0 (Below w.heap.size w w'))
               case atStart => exact ⟨(x12_27), (0), ue, ue, H', ⟨Nat.le_refl _⟩, ⟨ur HO_8⟩, ⟨ub BK101⟩, ⟨ub BK109⟩, ⟨uB2 HB GE101.out GE109.out⟩⟩
               case round =>
                clear H'
                clear hcz38_0 hcz38_1 hcz38_2 hfz38_0 hfz38_1 hfz38_2
                obtain ⟨x12_6, x56_6, rfl, rfl, HA, HK6, HO_8, BK101, BK109, HB⟩ := hrel
                cases gk with
                | zero => exact absurd HA.out (by simp [impl_Plan_rides.l2])
                | succ k6 =>
                 have H := HA.out; clear HA; simp only [impl_Plan_rides.l2] at H; by_cases c39 : x56_6 < (l0_2.length : Int)
                 ·
                  rw [if_pos c39] at H; have c39b0 := dl c39; clear c39; by_cases c40 : 0 ≤ x56_6
                  ·
                   rw [if_pos c40] at H; have c40b0 := de c40; clear c40; by_cases c41 : x56_6 < (l0_2.length : Int)
                   ·
                    rw [if_pos c41] at H; have c41b0 := dl c41; clear c41; by_cases c42 : ((rd_T32 l0_2 x56_6).f1) = ((rd_T32 l0_2 x26_2).f0)
                    ·
                     rw [if_pos c42] at H; obtain ⟨c42b0, c42b1⟩ := dq c42; clear c42; by_cases c43 : (wrap64 (((rd_T32 l0_2 x56_6).f3) + a0_1)) ≤ ((rd_T32 l0_2 x26_2).f2)
                     ·
                      rw [if_pos c43] at H; have c43b0 := de c43; clear c43; by_cases c44 : x56_6 < (x8_2.length : Int)
                      ·
                       rw [if_pos c44] at H; have c44b0 := dl c44; clear c44; have HH_ := Aside0.mk H; clear H; have p112 : 0 ≤ (x56_6 : Int) := ua; have q112 : x56_6 < (l0_2.length : Int) := ua; obtain ⟨ad112, e112, hx112_0, hx112_1, hx112_2, hx112_3, hx112_4⟩ := at_T32 HR0_2.out x56_6 p112 q112; obtain rfl : ad108 = ad112 := (by injection e112)
                       replace hx112_0 := uc HB hx112_0; replace hx112_1 := uc HB hx112_1; replace hx112_2 := uc HB hx112_2; replace hx112_3 := uc HB hx112_3; replace hx112_4 := uc HB hx112_4; replace p112 := eq_true p112; replace q112 := eq_true q112; go_upto_region 18 with (((with_reducible refine gate_dst (N := 15) rfl ?_); refine be (cs := #[.int .i64 0, .int .i64 0, .int .i64 0, .int .i64 0, .int .i64 0]) (t := 32) ?_; intro gb113 hg w45 hbox hb; replace HO_8 := Aside0.mk (Kd.R_below (ur HO_8) hb); have BK113 := Aside0.mk (hbox); have GW113 := gz w hg (uB2 HB GE101.out GE109.out); have GE113 := gz w hg (uB2 HB GE101.out GE109.out); replace HB := Aside0.mk (below_step (uB2 HB GE101.out GE109.out) hb); have NB101_113 := gl hg BK101; have NB113_101 := gr hg BK101; replace BK101 := bb BK101 hb; have NB109_113 := gl hg BK109; have NB113_109 := gr hg BK109; replace BK109 := bb BK109 hb; clear hb hbox hg; have hnb46 := NB113_101.out; have hnc46 := NB101_113.out; have hnb47 := NB113_109.out; have hnc47 := NB109_113.out; obtain ⟨hcz48_0, hcz48_1, hcz48_2, hcz48_3, hcz48_4, hfz48_0, hfz48_1, hfz48_2, hfz48_3, hfz48_4⟩ := bc5 BK113; have hnb49 := NB109_101.out; have hnc49 := NB101_109.out; obtain ⟨hcz50_0, hcz50_1, hcz50_2, hcz50_3, hcz50_4, hfz50_0, hfz50_1, hfz50_2, hfz50_3, hfz50_4⟩ := bc5 BK109; obtain ⟨hcz51_0, hcz51_1, hcz51_2, hfz51_0, hfz51_1, hfz51_2⟩ := bc3 BK101; obtain ⟨Ao52, co52, eo52⟩ := Kd.R_slice HO_8.out; subst eo52; have p114 : 0 ≤ (x56_6 : Int) := ua; have q114 : x56_6 < (x8_2.length : Int) := ua; obtain ⟨ad114, e114, hx114_0⟩ := Kd.at_int (Kd.R_reads' HO_8.out).2.2 x56_6 p114 q114; cases e114; have hn114_0 : ad114.block ≠ gb113 := Kd.own_blk (Kd.R_ne HO_8.out BK113.out (by decide)); have hn114_1 : ad114.block ≠ gb113 := Kd.own_blk (Kd.R_ne HO_8.out BK113.out (by decide)); have hn114_2 : ad114.block ≠ gb113 := Kd.own_blk (Kd.R_ne HO_8.out BK113.out (by decide)); have hn114_3 : ad114.block ≠ gb113 := Kd.own_blk (Kd.R_ne HO_8.out BK113.out (by decide)); have hn114_4 : ad114.block ≠ gb113 := Kd.own_blk (Kd.R_ne HO_8.out BK113.out (by decide)); replace hx114_0 := (cell_far (p := ⟨gb113, 0, none⟩) (by first | (rw [add_block]; exact hn114_0) | (show (Addr.add _ _).block ≠ _; rw [add_block]; exact hn114_0) | exact hn114_0) (.int .i64 ((rd_T32 l0_2 x56_6).f0))).trans hx114_0; replace hx114_0 := (cell_far (p := ⟨gb113, 1, none⟩) (by first | (rw [add_block]; exact hn114_1) | (show (Addr.add _ _).block ≠ _; rw [add_block]; exact hn114_1) | exact hn114_1) (.int .i64 ((rd_T32 l0_2 x56_6).f1))).trans hx114_0; replace hx114_0 := (cell_far (p := ⟨gb113, 2, none⟩) (by first | (rw [add_block]; exact hn114_2) | (show (Addr.add _ _).block ≠ _; rw [add_block]; exact hn114_2) | exact hn114_2) (.int .i64 ((rd_T32 l0_2 x56_6).f2))).trans hx114_0; replace hx114_0 := (cell_far (p := ⟨gb113, 3, none⟩) (by first | (rw [add_block]; exact hn114_3) | (show (Addr.add _ _).block ≠ _; rw [add_block]; exact hn114_3) | exact hn114_3) (.int .i64 ((rd_T32 l0_2 x56_6).f3))).trans hx114_0; replace hx114_0 := (cell_far (p := ⟨gb113, 4, none⟩) (by first | (rw [add_block]; exact hn114_4) | (show (Addr.add _ _).block ≠ _; rw [add_block]; exact hn114_4) | exact hn114_4) (.int .i64 ((rd_T32 l0_2 x56_6).f4))).trans hx114_0; clear hn114_0; clear hn114_1; clear hn114_2; clear hn114_3; clear hn114_4; replace p114 := eq_true p114; replace q114 := eq_true q114))
                       have H := HH_.out; clear HH_; by_cases c53 : (rd x8_2 x56_6) < 17
                       ·
                        rw [if_pos c53] at H; have c53b0 := dl c53; clear c53; obtain ⟨ji54, hji54⟩ : ∃ j_ : Int, (mn x12_6 (wrap64 ((rd x8_2 x56_6) + 1))) = j_ := ⟨_, rfl⟩
                        replace H : (impl_Plan_rides.l2 k6 a1 a2 17 x8_2 x9_2 x26_2 ji54 l0_2 (l0_2.length : Int) x26_2 l0_2 (l0_2.length : Int) (wrap64 (x56_6 + 1)) a0_0 a0_1 l0_2 ((rd_T32 l0_2 x26_2).f0) ((rd_T32 l0_2 x26_2).f1) ((rd_T32 l0_2 x26_2).f2) ((rd_T32 l0_2 x26_2).f3) ((rd_T32 l0_2 x26_2).f4)) = some r := by first | (rw [hji54] at H; exact H) | (simp only [hji54] at H ⊢; exact H)
                        have hji54_ : (if (wrap64 ((rd x8_2 x56_6) + 1)) < x12_6 then (wrap64 ((rd x8_2 x56_6) + 1)) else x12_6) = ji54 := hji54; have H' := Aside0.mk H; clear H; have p115 : 0 ≤ (x56_6 : Int) := ua; have q115 : x56_6 < (x8_2.length : Int) := ua; obtain ⟨ad115, e115, hx115_0⟩ := Kd.at_int (Kd.R_reads' HO_8.out).2.2 x56_6 p115 q115; obtain rfl : ad114 = ad115 := (by injection e115)
                        have hn115_0 : ad114.block ≠ gb113 := Kd.own_blk (Kd.R_ne HO_8.out BK113.out (by decide)); have hn115_1 : ad114.block ≠ gb113 := Kd.own_blk (Kd.R_ne HO_8.out BK113.out (by decide)); have hn115_2 : ad114.block ≠ gb113 := Kd.own_blk (Kd.R_ne HO_8.out BK113.out (by decide)); have hn115_3 : ad114.block ≠ gb113 := Kd.own_blk (Kd.R_ne HO_8.out BK113.out (by decide)); have hn115_4 : ad114.block ≠ gb113 := Kd.own_blk (Kd.R_ne HO_8.out BK113.out (by decide)); replace hx115_0 := (cell_far (p := ⟨gb113, 0, none⟩) (by first | (rw [add_block]; exact hn115_0) | (show (Addr.add _ _).block ≠ _; rw [add_block]; exact hn115_0) | exact hn115_0) (.int .i64 ((rd_T32 l0_2 x56_6).f0))).trans hx115_0; replace hx115_0 := (cell_far (p := ⟨gb113, 1, none⟩) (by first | (rw [add_block]; exact hn115_1) | (show (Addr.add _ _).block ≠ _; rw [add_block]; exact hn115_1) | exact hn115_1) (.int .i64 ((rd_T32 l0_2 x56_6).f1))).trans hx115_0; replace hx115_0 := (cell_far (p := ⟨gb113, 2, none⟩) (by first | (rw [add_block]; exact hn115_2) | (show (Addr.add _ _).block ≠ _; rw [add_block]; exact hn115_2) | exact hn115_2) (.int .i64 ((rd_T32 l0_2 x56_6).f2))).trans hx115_0; replace hx115_0 := (cell_far (p := ⟨gb113, 3, none⟩) (by first | (rw [add_block]; exact hn115_3) | (show (Addr.add _ _).block ≠ _; rw [add_block]; exact hn115_3) | exact hn115_3) (.int .i64 ((rd_T32 l0_2 x56_6).f3))).trans hx115_0; replace hx115_0 := (cell_far (p := ⟨gb113, 4, none⟩) (by first | (rw [add_block]; exact hn115_4) | (show (Addr.add _ _).block ≠ _; rw [add_block]; exact hn115_4) | exact hn115_4) (.int .i64 ((rd_T32 l0_2 x56_6).f4))).trans hx115_0; clear hn115_0; clear hn115_1; clear hn115_2; clear hn115_3; clear hn115_4; replace p115 := eq_true p115; replace q115 := eq_true q115; go_wp2; go_roundg k6
                        case measure => have := HK1.out; have := HK2.out; have := HJ15.out; have := HJ24.out; have := HJ27.out; have := HK6.out; omega
                        case rel => exact ⟨(ji54), (wrap64 (x56_6 + 1)), (by first | rfl | (simp; done) | (simp only [← hji54] <;> (first | rfl | simp)) | (simp [*]; done)), ue, H', ⟨by have := HK1.out; have := HK2.out; have := HJ15.out; have := HJ24.out; have := HJ27.out; have := HK6.out; omega⟩, ⟨by (with_reducible repeat (first | apply Kd.R_alloc | apply Kd.R_drewN | apply Kd.R_drew)); exact Kd.R_mono (rf5 HO_8 BK113) (fun _ hk => trivial)⟩, ⟨by (with_reducible repeat first | apply zbn | apply zbd | apply zba); refine fa5 ?_ NB101_113; exact ub BK101⟩, ⟨by (with_reducible repeat first | apply zbn | apply zbd | apply zba); refine fa5 ?_ NB109_113; exact ub BK109⟩, ⟨uB3 HB GE101.out GE109.out GE113.out⟩⟩
                       ·
                        rw [if_neg c53] at H; have c53b0 := DL c53; clear c53; have H' := Aside0.mk H; clear H; go_wp2; go_roundg k6
                        case measure => have := HK1.out; have := HK2.out; have := HJ15.out; have := HJ24.out; have := HJ27.out; have := HK6.out; omega
                        case rel => exact ⟨(x12_6), (wrap64 (x56_6 + 1)), ue, ue, H', ⟨by have := HK1.out; have := HK2.out; have := HJ15.out; have := HJ24.out; have := HJ27.out; have := HK6.out; omega⟩, ⟨by (with_reducible repeat (first | apply Kd.R_alloc | apply Kd.R_drewN | apply Kd.R_drew)); exact Kd.R_mono (rf5 HO_8 BK113) (fun _ hk => trivial)⟩, ⟨by (with_reducible repeat first | apply zbn | apply zbd | apply zba); refine fa5 ?_ NB101_113; exact ub BK101⟩, ⟨by (with_reducible repeat first | apply zbn | apply zbd | apply zba); refine fa5 ?_ NB109_113; exact ub BK109⟩, ⟨uB3 HB GE101.out GE109.out GE113.out⟩⟩
                      ·
                       rw [if_neg c44] at H; exact absurd H (by simp)
                     ·
                      rw [if_neg c43] at H; have c43b0 := DE c43; clear c43; have H' := Aside0.mk H; clear H; have p112 : 0 ≤ (x56_6 : Int) := ua; have q112 : x56_6 < (l0_2.length : Int) := ua; obtain ⟨ad112, e112, hx112_0, hx112_1, hx112_2, hx112_3, hx112_4⟩ := at_T32 HR0_2.out x56_6 p112 q112; obtain rfl : ad108 = ad112 := (by injection e112)
                      replace hx112_0 := uc HB hx112_0; replace hx112_1 := uc HB hx112_1; replace hx112_2 := uc HB hx112_2; replace hx112_3 := uc HB hx112_3; replace hx112_4 := uc HB hx112_4; replace p112 := eq_true p112; replace q112 := eq_true q112; go_wp2_with (((with_reducible refine gate_dst (N := 15) rfl ?_); refine be (cs := #[.int .i64 0, .int .i64 0, .int .i64 0, .int .i64 0, .int .i64 0]) (t := 32) ?_; intro gb113 hg w55 hbox hb; replace HO_8 := Aside0.mk (Kd.R_below (ur HO_8) hb); have BK113 := Aside0.mk (hbox); have GW113 := gz w hg (uB2 HB GE101.out GE109.out); have GE113 := gz w hg (uB2 HB GE101.out GE109.out); replace HB := Aside0.mk (below_step (uB2 HB GE101.out GE109.out) hb); have NB101_113 := gl hg BK101; have NB113_101 := gr hg BK101; replace BK101 := bb BK101 hb; have NB109_113 := gl hg BK109; have NB113_109 := gr hg BK109; replace BK109 := bb BK109 hb; clear hb hbox hg; have hnb56 := NB113_101.out; have hnc56 := NB101_113.out; have hnb57 := NB113_109.out; have hnc57 := NB109_113.out; obtain ⟨hcz58_0, hcz58_1, hcz58_2, hcz58_3, hcz58_4, hfz58_0, hfz58_1, hfz58_2, hfz58_3, hfz58_4⟩ := bc5 BK113; have hnb59 := NB109_101.out; have hnc59 := NB101_109.out; obtain ⟨hcz60_0, hcz60_1, hcz60_2, hcz60_3, hcz60_4, hfz60_0, hfz60_1, hfz60_2, hfz60_3, hfz60_4⟩ := bc5 BK109; obtain ⟨hcz61_0, hcz61_1, hcz61_2, hfz61_0, hfz61_1, hfz61_2⟩ := bc3 BK101)); go_roundg k6
                      case measure => have := HK1.out; have := HK2.out; have := HJ15.out; have := HJ24.out; have := HJ27.out; have := HK6.out; omega
                      case rel => exact ⟨(x12_6), (wrap64 (x56_6 + 1)), ue, ue, H', ⟨by have := HK1.out; have := HK2.out; have := HJ15.out; have := HJ24.out; have := HJ27.out; have := HK6.out; omega⟩, ⟨by (with_reducible repeat (first | apply Kd.R_alloc | apply Kd.R_drewN | apply Kd.R_drew)); exact Kd.R_mono (rf5 HO_8 BK113) (fun _ hk => trivial)⟩, ⟨by (with_reducible repeat first | apply zbn | apply zbd | apply zba); refine fa5 ?_ NB101_113; exact ub BK101⟩, ⟨by (with_reducible repeat first | apply zbn | apply zbd | apply zba); refine fa5 ?_ NB109_113; exact ub BK109⟩, ⟨uB3 HB GE101.out GE109.out GE113.out⟩⟩
                    ·
                     rw [if_neg c42] at H; obtain ⟨c42b0, c42b1⟩ := dQ c42; have H' := Aside0.mk H; clear H; have p112 : 0 ≤ (x56_6 : Int) := ua; have q112 : x56_6 < (l0_2.length : Int) := ua; obtain ⟨ad112, e112, hx112_0, hx112_1, hx112_2, hx112_3, hx112_4⟩ := at_T32 HR0_2.out x56_6 p112 q112; obtain rfl : ad108 = ad112 := (by injection e112)
                     replace hx112_0 := uc HB hx112_0; replace hx112_1 := uc HB hx112_1; replace hx112_2 := uc HB hx112_2; replace hx112_3 := uc HB hx112_3; replace hx112_4 := uc HB hx112_4; replace p112 := eq_true p112; replace q112 := eq_true q112; go_wp2_with (((with_reducible refine gate_dst (N := 15) rfl ?_); refine be (cs := #[.int .i64 0, .int .i64 0, .int .i64 0, .int .i64 0, .int .i64 0]) (t := 32) ?_; intro gb113 hg w62 hbox hb; replace HO_8 := Aside0.mk (Kd.R_below (ur HO_8) hb); have BK113 := Aside0.mk (hbox); have GW113 := gz w hg (uB2 HB GE101.out GE109.out); have GE113 := gz w hg (uB2 HB GE101.out GE109.out); replace HB := Aside0.mk (below_step (uB2 HB GE101.out GE109.out) hb); have NB101_113 := gl hg BK101; have NB113_101 := gr hg BK101; replace BK101 := bb BK101 hb; have NB109_113 := gl hg BK109; have NB113_109 := gr hg BK109; replace BK109 := bb BK109 hb; clear hb hbox hg; have hnb63 := NB113_101.out; have hnc63 := NB101_113.out; have hnb64 := NB113_109.out; have hnc64 := NB109_113.out; obtain ⟨hcz65_0, hcz65_1, hcz65_2, hcz65_3, hcz65_4, hfz65_0, hfz65_1, hfz65_2, hfz65_3, hfz65_4⟩ := bc5 BK113; have hnb66 := NB109_101.out; have hnc66 := NB101_109.out; obtain ⟨hcz67_0, hcz67_1, hcz67_2, hcz67_3, hcz67_4, hfz67_0, hfz67_1, hfz67_2, hfz67_3, hfz67_4⟩ := bc5 BK109)); go_roundg k6
                     case measure => have := HK1.out; have := HK2.out; have := HJ15.out; have := HJ24.out; have := HJ27.out; have := HK6.out; omega
                     case rel => exact ⟨(x12_6), (wrap64 (x56_6 + 1)), ue, ue, H', ⟨by have := HK1.out; have := HK2.out; have := HJ15.out; have := HJ24.out; have := HJ27.out; have := HK6.out; omega⟩, ⟨by (with_reducible repeat (first | apply Kd.R_alloc | apply Kd.R_drewN | apply Kd.R_drew)); exact Kd.R_mono (rf5 HO_8 BK113) (fun _ hk => trivial)⟩, ⟨by (with_reducible repeat first | apply zbn | apply zbd | apply zba); refine fa5 ?_ NB101_113; exact ub BK101⟩, ⟨by (with_reducible repeat first | apply zbn | apply zbd | apply zba); refine fa5 ?_ NB109_113; exact ub BK109⟩, ⟨uB3 HB GE101.out GE109.out GE113.out⟩⟩
                   ·
                    rw [if_neg c41] at H; exact absurd H (by simp)
                  ·
                   rw [if_neg c40] at H; exact absurd H (by simp)
                 ·
                  rw [if_neg c39] at H; have c39b0 := DL c39; clear c39; by_cases c68 : 0 ≤ x26_2
                  ·
                   rw [if_pos c68] at H; have c68b0 := de c68; clear c68; by_cases c69 : x26_2 < (x8_2.length : Int)
                   ·
                    rw [if_pos c69] at H; have c69b0 := dl c69; clear c69; by_cases c70 : x12_6 < (rd x8_2 x26_2)
                    ·
                     rw [if_pos c70] at H; have c70b0 := dl c70; clear c70; obtain ⟨y117, hy117⟩ : ∃ y_ : List Int, y_ = (x8_2.set (x26_2 : Int).toNat x12_6) := ⟨_, rfl⟩
                     replace H : (impl_Plan_rides.l1 k6 a1 a2 17 y117 true l0_2 (l0_2.length : Int) (wrap64 (x26_2 + 1)) a0_0 a0_1 l0_2) = some r := by first | (rw [hy117]; with_reducible exact H) | (have H2_ := (Option.bind_some _ _).symm.trans H; rw [hy117]; with_reducible exact H2_) | (have H2_ := (Option.bind_some _ _).symm.trans H; with_reducible exact H2_) | with_reducible exact H | (rw [hy117]; exact H) | exact H
                     have Ny117 := Aside0.mk hy117; clear hy117; have H' := Aside0.mk H; clear H; obtain ⟨Ao72, co72, eo72⟩ := Kd.R_slice HO_8.out; subst eo72; have p116 : 0 ≤ (x26_2 : Int) := ua; have q116 : x26_2 < (x8_2.length : Int) := ua; obtain ⟨ad116, e116, hx116_0⟩ := Kd.at_int (Kd.R_reads' HO_8.out).2.2 x26_2 p116 q116
                     cases e116
                     replace p116 := eq_true p116; replace q116 := eq_true q116; have p71 : 0 ≤ (x26_2 : Int) := ua; have q71 : (x26_2 : Int) < ((x8_2.length : Int) : Int) := ua; obtain ⟨go71, co71, eo71, gb71, gl71, cl71, HG71⟩ := Kd.R_form HO_8.out (by omega); (cases eo71); have GB71 := Aside0.mk gb71; have GG71 := Aside0.mk HG71; clear gb71 gl71 HG71; (simp only [add_plain] at hx116_0); obtain ⟨hx71_0, hf71_0⟩ := Kd.R_celln 0 HO_8.out (x26_2 : Int) p71 q71; replace p71 := eq_true p71; replace q71 := eq_true q71; have HP73 := Kd.R_putg HO_8.out (x26_2 : Int) x12_6; go_wp2_with (((with_reducible refine gate_store (t := 3) (p := 101) rfl ?_); refine store_event (t := 3) (p := 101) (v := ?vo_w74) (w1 := (wr.setCell ⟨go71, (x26_2 : Int).toNat, none⟩ (.int .i64 x12_6))) ?hg ?ho ?hn ?hr ?_; (case ho => rfl); (case hg => rfl); (case hn => rfl); (case hr => first | (go_simp; done) | (go_simp; rfl)); intro w74 hw; have hg : wr.grownBy w74 (some go71) := (by rw [hw]; exact HP73.2); have hp_ : Kd.R (Kd.int .i64) 3 w74 w.heap.size (fun _ => True) (.slice (some ⟨go71, 0, none⟩) x8_2.length co72) y117 := (by rw [hw, Ny117.out]; exact HP73.1); clear HP73; replace BK101 := bg BK101 hg (Kd.R_ne HO_8.out BK101.out (by decide)); replace BK109 := bg BK109 hg (Kd.R_ne HO_8.out BK109.out (by decide)); replace HO_8 := Aside0.mk (hp_); replace HB := Aside0.mk ((by rw [hw]; exact below_set (HB.out) GB71.out : Below w.heap.size w w74)); clear hg hw hp_)); go_roundg k6
                     case measure => have := HK1.out; have := HK2.out; have := HJ15.out; have := HJ24.out; have := HJ27.out; have := HK6.out; omega
                     case rel => exact ⟨(y117), (true), (wrap64 (x26_2 + 1)), ue, ue, H', ⟨by have := HK1.out; have := HK2.out; have := HJ15.out; have := HJ24.out; have := HJ27.out; have := HK6.out; omega⟩, ⟨ur HO_8⟩, ⟨ub BK101⟩, ⟨uB2 HB GE101.out GE109.out⟩⟩
                    ·
                     rw [if_neg c70] at H; have c70b0 := DL c70; clear c70; have H' := Aside0.mk H; clear H; obtain ⟨Ao75, co75, eo75⟩ := Kd.R_slice HO_8.out; subst eo75; have p116 : 0 ≤ (x26_2 : Int) := ua; have q116 : x26_2 < (x8_2.length : Int) := ua; obtain ⟨ad116, e116, hx116_0⟩ := Kd.at_int (Kd.R_reads' HO_8.out).2.2 x26_2 p116 q116
                     cases e116
                     replace p116 := eq_true p116; replace q116 := eq_true q116; go_wp2; go_roundg k6
                     case measure => have := HK1.out; have := HK2.out; have := HJ15.out; have := HJ24.out; have := HJ27.out; have := HK6.out; omega
                     case rel => exact ⟨(x8_2), (x9_2), (wrap64 (x26_2 + 1)), ue, ue, H', ⟨by have := HK1.out; have := HK2.out; have := HJ15.out; have := HJ24.out; have := HJ27.out; have := HK6.out; omega⟩, ⟨ur HO_8⟩, ⟨ub BK101⟩, ⟨uB2 HB GE101.out GE109.out⟩⟩
                   ·
                    rw [if_neg c69] at H; exact absurd H (by simp)
                  ·
                   rw [if_neg c68] at H; exact absurd H (by simp)
        ·
         rw [if_neg c15] at H; exact absurd H (by simp)
       ·
        rw [if_neg c14] at H; exact absurd H (by simp)
      ·
       rw [if_neg c13] at H; have c13b0 := DL c13; clear c13; have H' := Aside0.mk H; clear H; go_wp2; go_roundg k2
       case measure => have := HK1.out; have := HK2.out; omega
       case rel => exact ⟨(x8_2), (x9_2), ue, H', ⟨by have := HK1.out; have := HK2.out; omega⟩, ⟨ur HO_8⟩, ⟨ub BK101⟩, ⟨uB1 HB GE101.out⟩⟩
   ·
    replace c11 := Bool.eq_false_iff.mpr c11; subst c11; rw [if_neg (show ¬ (false = true) by decide)] at H; obtain rfl := Option.some.inj H; go_wp2; go_ret; exact ⟨_, by first | rfl | (simp [errW_none, errW_some] <;> rfl) | (simp [*, errW_none, errW_some] <;> rfl), by (with_reducible repeat (first | apply Kd.R_alloc | apply Kd.R_drewN | apply Kd.R_drew)); exact HO_8.out, uB1 HB GE101.out⟩

end Go.Proofs.Ytcklifkbodmoaaa.P
