-- written for this claim by a program (wip/gen/myprint.py over the print tool). Not trusted: Lean checks it.
import Derived.Test.YtcklifkbodmoaaaPx0
import Derived.Test.YtcklifkbodmoaaaHUp
import Derived.Test.YtcklifkbodmoaaaGBase
namespace Go.Proofs.Ytcklifkbodmoaaa.P
open Go.RowKit Go.Proofs.YtcklifkbodmoaaaV.PrintWords Go.Proofs.YtcklifkbodmoaaaV.PrintLast
set_option linter.unusedVariables false
set_option linter.unusedSimpArgs false

/-! ### impl_timeOk: function 78 -/
def impl_timeOk.f (a0 : Int) : Option (Bool) := (impl_within.f a0 0 199).bind fun t101 => (some t101)
set_option maxHeartbeats 8000000 in
set_option maxRecDepth 100000 in
theorem impl_timeOk.calls (a0 : Int) (r : Bool) (w : World) (h : impl_timeOk.f a0 = some r) :
  Calls Try.prog 78 #[.int .i64 a0] w fun e w' => e = .returned (.bool r) ∧ Drawn0 w w' := by
 have H : ((impl_within.f a0 0 199).bind fun t101 => (some t101)) = some r := h
 clear h
 replace H := Option.bind_eq_some_iff.mp H
 obtain ⟨t101, A20, H⟩ := H
 replace H : (some t101) = some r := H
 have A2 := Aside0.mk A20
 clear A20
 obtain rfl := Option.some.inj H
 go_enter Try.func78, Try.ntmps78
 go_wp2_with (((with_reducible refine gate_callee (f := 68) rfl ?_); refine goesL_ (some 4) rfl rfl Try.func68 (by kernel_rfl) rfl #[.int .i64 a0, .int .i64 0, .int .i64 199] rfl ul ?_; (with_reducible refine (impl_within.calls a0 0 199 t101 _ A2.out).mono ?_); rintro e w' ⟨rfl, ⟨nd, rfl⟩⟩; refine ⟨_, rfl, ?_⟩))
 go_ret
 exact ⟨by first | rfl | (simp; done) | (simp [*]; done), by repeat (first | exact Drawn0.refl _ | apply Drawn0.step)⟩

end Go.Proofs.Ytcklifkbodmoaaa.P
namespace Go.Proofs.Ytcklifkbodmoaaa.P
open Go.RowKit Go.Proofs.YtcklifkbodmoaaaV.PrintWords Go.Proofs.YtcklifkbodmoaaaV.PrintLast
set_option linter.unusedVariables false
set_option linter.unusedSimpArgs false

/-! ### impl_Plan_stop: function 69 -/
def impl_Plan_stop.f (a0_0 : Int) (a0_1 : Int) (l0_2 : List (S32)) (a1 : Int) : Option (Bool) := (impl_within.f a1 0 (wrap64 (a0_0 - 1))).bind fun t102 => (some t102)
set_option maxHeartbeats 8000000 in
set_option maxRecDepth 100000 in
theorem impl_Plan_stop.calls (a0_0 : Int) (a0_1 : Int) (A0_2 : Option Addr) (c0_2 : Nat) (l0_2 : List (S32)) (a1 : Int) (r : Bool) (w : World) (hr0_2 : Kd.C k32 w A0_2 l0_2.length l0_2) (hc0_2 : l0_2.length ≤ c0_2) (h : impl_Plan_stop.f a0_0 a0_1 l0_2 a1 = some r) :
  Calls Try.prog 69 #[.agg #[.int .i64 a0_0, .int .i64 a0_1, .slice A0_2 l0_2.length c0_2], .int .i64 a1] w fun e w' => e = .returned (.bool r) ∧ Below w.heap.size w w' := by
 have hu25 := Try.underlying25
 have HR0_2 := Aside0.mk hr0_2
 have HC0_2 := Aside0.mk hc0_2
 clear hr0_2 hc0_2
 have HB := Aside0.mk (Below.refl w.heap.size w)
 have H : ((impl_within.f a1 0 (wrap64 (a0_0 - 1))).bind fun t102 => (some t102)) = some r := h
 clear h
 replace H := Option.bind_eq_some_iff.mp H
 obtain ⟨t102, A30, H⟩ := H
 replace H : (some t102) = some r := H
 have A3 := Aside0.mk A30
 clear A30
 obtain rfl := Option.some.inj H
 go_enter Try.func69, Try.ntmps69
 go_wp2_with (first | ((with_reducible refine gate_dst (N := 2) rfl ?_); refine be (cs := #[.int .i64 a0_0, .int .i64 a0_1, .slice A0_2 l0_2.length c0_2]) (t := 25) ?_; intro gb101 hg w4 hbox hb; have BK101 := Aside0.mk (hbox); have GW101 := gz w hg (uB0 HB); have GE101 := gz w hg (uB0 HB); replace HB := Aside0.mk (below_step (uB0 HB) hb); clear hb hbox hg; obtain ⟨hcz5_0, hcz5_1, hcz5_2, hfz5_0, hfz5_1, hfz5_2⟩ := bc3 BK101) | ((with_reducible refine gate_callee (f := 68) rfl ?_); refine goesL_ (some 9) rfl rfl Try.func68 (by kernel_rfl) rfl #[.int .i64 a1, .int .i64 0, .int .i64 (wrap64 (a0_0 - 1))] rfl ul ?_; (with_reducible refine (impl_within.calls a1 0 (wrap64 (a0_0 - 1)) t102 _ A3.out).mono ?_); rintro e w' ⟨rfl, ⟨nd, rfl⟩⟩; refine ⟨_, rfl, ?_⟩))
 go_ret
 exact ⟨ux, uB1 HB GE101.out⟩

end Go.Proofs.Ytcklifkbodmoaaa.P
namespace Go.Proofs.Ytcklifkbodmoaaa.P
open Go.RowKit Go.Proofs.YtcklifkbodmoaaaV.PrintWords Go.Proofs.YtcklifkbodmoaaaV.PrintLast
set_option linter.unusedVariables false
set_option linter.unusedSimpArgs false

/-! ### impl_Step_valid: function 70 -/
def impl_Step_valid.f (a0_0 : Int) (a0_1 : Int) : Option (Bool) := (impl_timeOk.f a0_0).bind fun t102 => (if t102 = true then ((impl_within.f a0_1 a0_0 199).bind fun t103 => (some t103)) else (some false))
set_option maxHeartbeats 8000000 in
set_option maxRecDepth 100000 in
theorem impl_Step_valid.calls (a0_0 : Int) (a0_1 : Int) (r : Bool) (w : World) (h : impl_Step_valid.f a0_0 a0_1 = some r) :
  Calls Try.prog 70 #[.agg #[.int .i64 a0_0, .int .i64 a0_1]] w fun e w' => e = .returned (.bool r) ∧ Below w.heap.size w w' := by
 have hu66 := Try.underlying66
 have HB := Aside0.mk (Below.refl w.heap.size w)
 have H : ((impl_timeOk.f a0_0).bind fun t102 => (if t102 = true then ((impl_within.f a0_1 a0_0 199).bind fun t103 => (some t103)) else (some false))) = some r := h
 clear h
 replace H := Option.bind_eq_some_iff.mp H
 obtain ⟨t102, A20, H⟩ := H
 replace H : (if t102 = true then ((impl_within.f a0_1 a0_0 199).bind fun t103 => (some t103)) else (some false)) = some r := H
 have A2 := Aside0.mk A20
 clear A20
 by_cases c3 : t102 = true
 ·
  subst c3; rw [if_pos rfl] at H; replace H := Option.bind_eq_some_iff.mp H; obtain ⟨t103, A40, H⟩ := H; replace H : (some t103) = some r := H; have A4 := Aside0.mk A40; clear A40; obtain rfl := Option.some.inj H; go_enter Try.func70, Try.ntmps70; go_wp2_with (first | ((with_reducible refine gate_dst (N := 1) rfl ?_); refine be (cs := #[.int .i64 a0_0, .int .i64 a0_1]) (t := 66) ?_; intro gb101 hg w5 hbox hb; have BK101 := Aside0.mk (hbox); have GW101 := gz w hg (uB0 HB); have GE101 := gz w hg (uB0 HB); replace HB := Aside0.mk (below_step (uB0 HB) hb); clear hb hbox hg; obtain ⟨hcz6_0, hcz6_1, hfz6_0, hfz6_1⟩ := bc2 BK101) | ((with_reducible refine gate_callee (f := 78) rfl ?_); refine goesL_ (some 5) rfl rfl Try.func78 (by kernel_rfl) rfl #[.int .i64 a0_0] rfl ul ?_; (with_reducible refine (impl_timeOk.calls a0_0 true _ A2.out).mono ?_); rintro e w' ⟨rfl, ⟨nd, rfl⟩⟩; refine ⟨_, rfl, ?_⟩) | (go_at_call 68; (with_reducible refine (impl_within.calls a0_1 a0_0 199 t103 _ A4.out).mono ?_); rintro e w' ⟨rfl, ⟨nd, rfl⟩⟩)); go_ret; exact ⟨ux, uB1 HB GE101.out⟩
 ·
  replace c3 := Bool.eq_false_iff.mpr c3; subst c3; rw [if_neg (show ¬ (false = true) by decide)] at H; obtain rfl := Option.some.inj H; go_enter Try.func70, Try.ntmps70; go_wp2_with (first | ((with_reducible refine gate_dst (N := 1) rfl ?_); refine be (cs := #[.int .i64 a0_0, .int .i64 a0_1]) (t := 66) ?_; intro gb101 hg w7 hbox hb; have BK101 := Aside0.mk (hbox); have GW101 := gz w hg (uB0 HB); have GE101 := gz w hg (uB0 HB); replace HB := Aside0.mk (below_step (uB0 HB) hb); clear hb hbox hg; obtain ⟨hcz8_0, hcz8_1, hfz8_0, hfz8_1⟩ := bc2 BK101) | ((with_reducible refine gate_callee (f := 78) rfl ?_); refine goesL_ (some 5) rfl rfl Try.func78 (by kernel_rfl) rfl #[.int .i64 a0_0] rfl ul ?_; (with_reducible refine (impl_timeOk.calls a0_0 false _ A2.out).mono ?_); rintro e w' ⟨rfl, ⟨nd, rfl⟩⟩; refine ⟨_, rfl, ?_⟩)); go_ret; exact ⟨ux, uB1 HB GE101.out⟩

end Go.Proofs.Ytcklifkbodmoaaa.P
namespace Go.Proofs.Ytcklifkbodmoaaa.P
open Go.RowKit Go.Proofs.YtcklifkbodmoaaaV.PrintWords Go.Proofs.YtcklifkbodmoaaaV.PrintLast
set_option linter.unusedVariables false
set_option linter.unusedSimpArgs false

/-! ### impl_Plan_before: function 71 -/
def impl_Plan_before.l0 : Nat → Int → Int → Int → Int → List (S32) → Option (Int)
 | 0, _, _, _, _, _ => none
 | k + 1, x1, x5, x102000, x102001, x102002 => if x5 ≥ 0 then (if 0 ≤ x5 then (if x5 < (x102002.length : Int) then (if 0 ≤ x1 then (if x1 < (x102002.length : Int) then (if ((rd_T32 x102002 x5).f4) = ((rd_T32 x102002 x1).f4) then (some x5) else (impl_Plan_before.l0 k x1 (wrap64 (x5 - 1)) x102000 x102001 x102002)) else (none)) else (none)) else (none)) else (none)) else (some (-1))
def impl_Plan_before.f (k : Nat) (a0_0 : Int) (a0_1 : Int) (l0_2 : List (S32)) (a1 : Int) : Option (Int) := impl_Plan_before.l0 k a1 (wrap64 (a1 - 1)) a0_0 a0_1 l0_2
set_option maxHeartbeats 8000000 in
set_option maxRecDepth 100000 in
theorem impl_Plan_before.calls (k : Nat) (a0_0 : Int) (a0_1 : Int) (A0_2 : Option Addr) (c0_2 : Nat) (l0_2 : List (S32)) (a1 : Int) (r : Int) (w : World) (hr0_2 : Kd.C k32 w A0_2 l0_2.length l0_2) (hc0_2 : l0_2.length ≤ c0_2) (h : impl_Plan_before.f k a0_0 a0_1 l0_2 a1 = some r) :
  Calls Try.prog 71 #[.agg #[.int .i64 a0_0, .int .i64 a0_1, .slice A0_2 l0_2.length c0_2], .int .i64 a1] w fun e w' => e = .returned (.int .i64 r) ∧ Below w.heap.size w w' := by
 have hu25 := Try.underlying25
 have HR0_2 := Aside0.mk hr0_2
 have HC0_2 := Aside0.mk hc0_2
 clear hr0_2 hc0_2
 have HB := Aside0.mk (Below.refl w.heap.size w)
 have H : (impl_Plan_before.l0 k a1 (wrap64 (a1 - 1)) a0_0 a0_1 l0_2) = some r := h
 clear h
 have H' := Aside0.mk H
 clear H
 go_enter Try.func71, Try.ntmps71
 go_wp2_with (((with_reducible refine gate_dst (N := 2) rfl ?_); refine be (cs := #[.int .i64 a0_0, .int .i64 a0_1, .slice A0_2 l0_2.length c0_2]) (t := 25) ?_; intro gb101 hg w3 hbox hb; have BK101 := Aside0.mk (hbox); have GW101 := gz w hg (uB0 HB); have GE101 := gz w hg (uB0 HB); replace HB := Aside0.mk (below_step (uB0 HB) hb); clear hb hbox hg))
 go_loopg [5] k (fun kq v5 w' => ∃ (x5_1 : Int), v5 = .int .i64 x5_1 ∧ Aside0 (impl_Plan_before.l0 kq a1 x5_1 a0_0 a0_1 l0_2 = some r) ∧ Aside0 (kq ≤ k) ∧ Aside0 (w'.heap[gb101]? = some (.cells #[.int .i64 a0_0, .int .i64 a0_1, (.slice A0_2 l0_2.length c0_2)] 25 (0, 0))) ∧ Aside0 (Below w.heap.size w w'))
 case atStart => exact ⟨(wrap64 (a1 - 1)), ue, H', ⟨Nat.le_refl _⟩, ⟨ub BK101⟩, ⟨uB1 HB GE101.out⟩⟩
 case round =>
  clear H'
  obtain ⟨x5_1, rfl, HA, HK1, BK101, HB⟩ := hrel
  cases gk with
  | zero => exact absurd HA.out (by simp [impl_Plan_before.l0])
  | succ k1 =>
   have H := HA.out; clear HA; simp only [impl_Plan_before.l0] at H; by_cases c4 : x5_1 ≥ 0
   ·
    rw [if_pos c4] at H; have c4b0 := de c4; clear c4; by_cases c5 : 0 ≤ x5_1
    ·
     rw [if_pos c5] at H; have c5b0 := de c5; clear c5; by_cases c6 : x5_1 < (l0_2.length : Int)
     ·
      rw [if_pos c6] at H; have c6b0 := dl c6; clear c6; by_cases c7 : 0 ≤ a1
      ·
       rw [if_pos c7] at H; have c7b0 := de c7; clear c7; by_cases c8 : a1 < (l0_2.length : Int)
       ·
        rw [if_pos c8] at H; have c8b0 := dl c8; clear c8; by_cases c9 : ((rd_T32 l0_2 x5_1).f4) = ((rd_T32 l0_2 a1).f4)
        ·
         rw [if_pos c9] at H; obtain ⟨c9b0, c9b1⟩ := dq c9; clear c9; obtain rfl := Option.some.inj H; obtain ⟨hcz10_0, hcz10_1, hcz10_2, hfz10_0, hfz10_1, hfz10_2⟩ := bc3 BK101; have p102 : 0 ≤ (x5_1 : Int) := ua; have q102 : x5_1 < (l0_2.length : Int) := ua; obtain ⟨ad102, e102, hx102_0, hx102_1, hx102_2, hx102_3, hx102_4⟩ := at_T32 HR0_2.out x5_1 p102 q102
         cases e102
         replace hx102_0 := uc HB hx102_0; replace hx102_1 := uc HB hx102_1; replace hx102_2 := uc HB hx102_2; replace hx102_3 := uc HB hx102_3; replace hx102_4 := uc HB hx102_4; replace p102 := eq_true p102; replace q102 := eq_true q102; have p103 : 0 ≤ (a1 : Int) := ua; have q103 : a1 < (l0_2.length : Int) := ua; obtain ⟨ad103, e103, hx103_0, hx103_1, hx103_2, hx103_3, hx103_4⟩ := at_T32 HR0_2.out a1 p103 q103; obtain rfl : ad102 = ad103 := (by injection e103)
         replace hx103_0 := uc HB hx103_0; replace hx103_1 := uc HB hx103_1; replace hx103_2 := uc HB hx103_2; replace hx103_3 := uc HB hx103_3; replace hx103_4 := uc HB hx103_4; replace p103 := eq_true p103; replace q103 := eq_true q103; go_wp2
         repeat (go_quiet (fail); try go_wp2)
         go_ret; exact ⟨ux, uB1 HB GE101.out⟩
        ·
         rw [if_neg c9] at H; obtain ⟨c9b0, c9b1⟩ := dQ c9; have H' := Aside0.mk H; clear H; obtain ⟨hcz11_0, hcz11_1, hcz11_2, hfz11_0, hfz11_1, hfz11_2⟩ := bc3 BK101; have p102 : 0 ≤ (x5_1 : Int) := ua; have q102 : x5_1 < (l0_2.length : Int) := ua; obtain ⟨ad102, e102, hx102_0, hx102_1, hx102_2, hx102_3, hx102_4⟩ := at_T32 HR0_2.out x5_1 p102 q102
         cases e102
         replace hx102_0 := uc HB hx102_0; replace hx102_1 := uc HB hx102_1; replace hx102_2 := uc HB hx102_2; replace hx102_3 := uc HB hx102_3; replace hx102_4 := uc HB hx102_4; replace p102 := eq_true p102; replace q102 := eq_true q102; have p103 : 0 ≤ (a1 : Int) := ua; have q103 : a1 < (l0_2.length : Int) := ua; obtain ⟨ad103, e103, hx103_0, hx103_1, hx103_2, hx103_3, hx103_4⟩ := at_T32 HR0_2.out a1 p103 q103; obtain rfl : ad102 = ad103 := (by injection e103)
         replace hx103_0 := uc HB hx103_0; replace hx103_1 := uc HB hx103_1; replace hx103_2 := uc HB hx103_2; replace hx103_3 := uc HB hx103_3; replace hx103_4 := uc HB hx103_4; replace p103 := eq_true p103; replace q103 := eq_true q103; go_wp2
         repeat (go_quiet (fail); try go_wp2)
         go_roundg k1
         case measure => have := HK1.out; omega
         case rel => exact ⟨(wrap64 (x5_1 - 1)), ue, H', ⟨by have := HK1.out; omega⟩, ⟨ub BK101⟩, ⟨uB1 HB GE101.out⟩⟩
       ·
        rw [if_neg c8] at H; exact absurd H (by simp)
      ·
       rw [if_neg c7] at H; exact absurd H (by simp)
     ·
      rw [if_neg c6] at H; exact absurd H (by simp)
    ·
     rw [if_neg c5] at H; exact absurd H (by simp)
   ·
    rw [if_neg c4] at H; have c4b0 := DE c4; clear c4; obtain rfl := Option.some.inj H; go_wp2
    go_ret; exact ⟨ux, uB1 HB GE101.out⟩

end Go.Proofs.Ytcklifkbodmoaaa.P
namespace Go.Proofs.Ytcklifkbodmoaaa.P
open Go.RowKit Go.Proofs.YtcklifkbodmoaaaV.PrintWords Go.Proofs.YtcklifkbodmoaaaV.PrintLast
set_option linter.unusedVariables false
set_option linter.unusedSimpArgs false

/-! ### impl_PlanOk: function 21 -/
mutual
def impl_PlanOk.j0 : Nat → Bool → Int → Int → List (S32) → Option (Bool)
 | 0, _, _, _, _ => none
 | k + 1, x21, x102000, x102001, x102002 => if x21 = true then (some false) else (impl_PlanOk.l0 k x102002 (x102002.length : Int) 0 x102000 x102001 x102002)
def impl_PlanOk.l0 : Nat → List (S32) → Int → Int → Int → Int → List (S32) → Option (Bool)
 | 0, _, _, _, _, _, _ => none
 | k + 1, x23, x24, x25, x102000, x102001, x102002 => if x25 < x24 then (if 0 ≤ x25 then (if x25 < (x23.length : Int) then ((impl_Plan_stop.f x102000 x102001 x102002 ((rd_T32 x23 x25).f0)).bind fun t106 => (if t106 = true then ((impl_Plan_stop.f x102000 x102001 x102002 ((rd_T32 x23 x25).f1)).bind fun t107 => (if t107 = true then (if ((rd_T32 x23 x25).f0) = ((rd_T32 x23 x25).f1) then (impl_PlanOk.j2 k x25 x23 x24 x25 true x102000 x102001 x102002 ((rd_T32 x23 x25).f0) ((rd_T32 x23 x25).f1) ((rd_T32 x23 x25).f2) ((rd_T32 x23 x25).f3) ((rd_T32 x23 x25).f4)) else ((impl_Step_valid.f ((rd_T32 x23 x25).f2) ((rd_T32 x23 x25).f3)).bind fun t108 => (if t108 = true then ((impl_within.f ((rd_T32 x23 x25).f4) 0 5).bind fun t109 => (impl_PlanOk.j2 k x25 x23 x24 x25 (!t109) x102000 x102001 x102002 ((rd_T32 x23 x25).f0) ((rd_T32 x23 x25).f1) ((rd_T32 x23 x25).f2) ((rd_T32 x23 x25).f3) ((rd_T32 x23 x25).f4))) else (impl_PlanOk.j2 k x25 x23 x24 x25 true x102000 x102001 x102002 ((rd_T32 x23 x25).f0) ((rd_T32 x23 x25).f1) ((rd_T32 x23 x25).f2) ((rd_T32 x23 x25).f3) ((rd_T32 x23 x25).f4))))) else (impl_PlanOk.j2 k x25 x23 x24 x25 true x102000 x102001 x102002 ((rd_T32 x23 x25).f0) ((rd_T32 x23 x25).f1) ((rd_T32 x23 x25).f2) ((rd_T32 x23 x25).f3) ((rd_T32 x23 x25).f4)))) else (impl_PlanOk.j2 k x25 x23 x24 x25 true x102000 x102001 x102002 ((rd_T32 x23 x25).f0) ((rd_T32 x23 x25).f1) ((rd_T32 x23 x25).f2) ((rd_T32 x23 x25).f3) ((rd_T32 x23 x25).f4)))) else (none)) else (none)) else (some true)
def impl_PlanOk.j2 : Nat → Int → List (S32) → Int → Int → Bool → Int → Int → List (S32) → Int → Int → Int → Int → Int → Option (Bool)
 | 0, _, _, _, _, _, _, _, _, _, _, _, _, _ => none
 | k + 1, x3, x23, x24, x25, x63, x102000, x102001, x102002, x106000, x106001, x106002, x106003, x106004 => if x63 = true then (some false) else (if x3 > 0 then (if 0 ≤ (wrap64 (x3 - 1)) then (if (wrap64 (x3 - 1)) < (x102002.length : Int) then (impl_PlanOk.j3 k x3 x23 x24 x25 (decide (((rd_T32 x102002 (wrap64 (x3 - 1))).f2) > x106002)) x102000 x102001 x102002 x106000 x106001 x106002 x106003 x106004) else (none)) else (none)) else (impl_PlanOk.j3 k x3 x23 x24 x25 false x102000 x102001 x102002 x106000 x106001 x106002 x106003 x106004))
def impl_PlanOk.j3 : Nat → Int → List (S32) → Int → Int → Bool → Int → Int → List (S32) → Int → Int → Int → Int → Int → Option (Bool)
 | 0, _, _, _, _, _, _, _, _, _, _, _, _, _ => none
 | k + 1, x3, x23, x24, x25, x77, x102000, x102001, x102002, x106000, x106001, x106002, x106003, x106004 => if x77 = true then (some false) else ((impl_Plan_before.f k x102000 x102001 x102002 x3).bind fun t111 => (if t111 ≥ 0 then (if 0 ≤ t111 then (if t111 < (x102002.length : Int) then (if ((rd_T32 x102002 t111).f1) = x106000 then (if ((rd_T32 x102002 t111).f3) > x106002 then (some false) else (impl_PlanOk.l0 k x23 x24 (wrap64 (x25 + 1)) x102000 x102001 x102002)) else (some false)) else (none)) else (none)) else (impl_PlanOk.l0 k x23 x24 (wrap64 (x25 + 1)) x102000 x102001 x102002)))
end
def impl_PlanOk.f (k : Nat) (a0_0 : Int) (a0_1 : Int) (l0_2 : List (S32)) : Option (Bool) := (impl_within.f a0_0 1 8).bind fun t102 => (if t102 = true then ((impl_within.f a0_1 0 20).bind fun t103 => (if t103 = true then (impl_PlanOk.j0 k (decide ((l0_2.length : Int) > 16)) a0_0 a0_1 l0_2) else (impl_PlanOk.j0 k true a0_0 a0_1 l0_2))) else (impl_PlanOk.j0 k true a0_0 a0_1 l0_2))
set_option maxHeartbeats 8000000 in
set_option maxRecDepth 100000 in
theorem impl_PlanOk.calls (k : Nat) (a0_0 : Int) (a0_1 : Int) (A0_2 : Option Addr) (c0_2 : Nat) (l0_2 : List (S32)) (r : Bool) (w : World) (hr0_2 : Kd.C k32 w A0_2 l0_2.length l0_2) (hc0_2 : l0_2.length ≤ c0_2) (h : impl_PlanOk.f k a0_0 a0_1 l0_2 = some r) :
  Calls Try.prog 21 #[.agg #[.int .i64 a0_0, .int .i64 a0_1, .slice A0_2 l0_2.length c0_2]] w fun e w' => e = .returned (.bool r) ∧ Below w.heap.size w w' := by
 have hu25 := Try.underlying25
 have hu32 := Try.underlying32
 have hu66 := Try.underlying66
 have HR0_2 := Aside0.mk hr0_2
 have HC0_2 := Aside0.mk hc0_2
 clear hr0_2 hc0_2
 have HB := Aside0.mk (Below.refl w.heap.size w)
 have H : ((impl_within.f a0_0 1 8).bind fun t102 => (if t102 = true then ((impl_within.f a0_1 0 20).bind fun t103 => (if t103 = true then (impl_PlanOk.j0 k (decide ((l0_2.length : Int) > 16)) a0_0 a0_1 l0_2) else (impl_PlanOk.j0 k true a0_0 a0_1 l0_2))) else (impl_PlanOk.j0 k true a0_0 a0_1 l0_2))) = some r := h
 clear h
 have HC2 := Aside0.mk H
 clear H
 go_enter Try.func21, Try.ntmps21
 go_upto_region 1 with (((with_reducible refine gate_dst (N := 1) rfl ?_); refine be (cs := #[.int .i64 a0_0, .int .i64 a0_1, .slice A0_2 l0_2.length c0_2]) (t := 25) ?_; intro gb101 hg w3 hbox hb; have BK101 := Aside0.mk (hbox); have GW101 := gz w hg (uB0 HB); have GE101 := gz w hg (uB0 HB); replace HB := Aside0.mk (below_step (uB0 HB) hb); clear hb hbox hg))
 go_cut [21] (fun v21 wc => ∃ (kq : Nat) (x21_1 : Bool), v21 = .bool x21_1 ∧ Aside0 (impl_PlanOk.j0 kq x21_1 a0_0 a0_1 l0_2 = some r) ∧ Aside0 (kq ≤ k) ∧ Aside0 (wc.heap[gb101]? = some (.cells #[.int .i64 a0_0, .int .i64 a0_1, (.slice A0_2 l0_2.length c0_2)] 25 (0, 0))) ∧ Aside0 (Below w.heap.size w wc))
 case first =>
  have H := HC2.out; clear HC2; replace H := Option.bind_eq_some_iff.mp H; obtain ⟨t102, A40, H⟩ := H; replace H : (if t102 = true then ((impl_within.f a0_1 0 20).bind fun t103 => (if t103 = true then (impl_PlanOk.j0 k (decide ((l0_2.length : Int) > 16)) a0_0 a0_1 l0_2) else (impl_PlanOk.j0 k true a0_0 a0_1 l0_2))) else (impl_PlanOk.j0 k true a0_0 a0_1 l0_2)) = some r := H; have A4 := Aside0.mk A40; clear A40; by_cases c5 : t102 = true
  ·
   subst c5; rw [if_pos rfl] at H; replace H := Option.bind_eq_some_iff.mp H; obtain ⟨t103, A60, H⟩ := H; replace H : (if t103 = true then (impl_PlanOk.j0 k (decide ((l0_2.length : Int) > 16)) a0_0 a0_1 l0_2) else (impl_PlanOk.j0 k true a0_0 a0_1 l0_2)) = some r := H; have A6 := Aside0.mk A60; clear A60; by_cases c7 : t103 = true
   ·
    subst c7; rw [if_pos rfl] at H; have H' := Aside0.mk H; clear H; obtain ⟨hcz8_0, hcz8_1, hcz8_2, hfz8_0, hfz8_1, hfz8_2⟩ := bc3 BK101; go_wp2_with (first | (go_at_call 68; (with_reducible refine (impl_within.calls a0_0 1 8 true _ A4.out).mono ?_); rintro e w' ⟨rfl, ⟨nd, rfl⟩⟩) | (go_at_call 68; (with_reducible refine (impl_within.calls a0_1 0 20 true _ A6.out).mono ?_); rintro e w' ⟨rfl, ⟨nd, rfl⟩⟩))
    go_meet
    case rel => exact ⟨_, (decide ((l0_2.length : Int) > 16)), ue, H', ⟨by first | omega | exact Nat.le_refl _⟩, ⟨ub BK101⟩, ⟨uB1 HB GE101.out⟩⟩
   ·
    replace c7 := Bool.eq_false_iff.mpr c7; subst c7; rw [if_neg (show ¬ (false = true) by decide)] at H; have H' := Aside0.mk H; clear H; obtain ⟨hcz9_0, hcz9_1, hcz9_2, hfz9_0, hfz9_1, hfz9_2⟩ := bc3 BK101; go_wp2_with (first | (go_at_call 68; (with_reducible refine (impl_within.calls a0_0 1 8 true _ A4.out).mono ?_); rintro e w' ⟨rfl, ⟨nd, rfl⟩⟩) | (go_at_call 68; (with_reducible refine (impl_within.calls a0_1 0 20 false _ A6.out).mono ?_); rintro e w' ⟨rfl, ⟨nd, rfl⟩⟩))
    go_meet
    case rel => exact ⟨_, (true), ue, H', ⟨by first | omega | exact Nat.le_refl _⟩, ⟨ub BK101⟩, ⟨uB1 HB GE101.out⟩⟩
  ·
   replace c5 := Bool.eq_false_iff.mpr c5; subst c5; rw [if_neg (show ¬ (false = true) by decide)] at H; have H' := Aside0.mk H; clear H; obtain ⟨hcz10_0, hcz10_1, hcz10_2, hfz10_0, hfz10_1, hfz10_2⟩ := bc3 BK101; go_wp2_with ((go_at_call 68; (with_reducible refine (impl_within.calls a0_0 1 8 false _ A4.out).mono ?_); rintro e w' ⟨rfl, ⟨nd, rfl⟩⟩))
   go_meet
   case rel => exact ⟨_, (true), ue, H', ⟨by first | omega | exact Nat.le_refl _⟩, ⟨ub BK101⟩, ⟨uB1 HB GE101.out⟩⟩
 case rest =>
  clear HC2
  obtain ⟨kq, x21_1, rfl, HA, HJ1, BK101, HB⟩ := hcut
  cases kq with
  | zero => exact absurd HA.out (by simp [impl_PlanOk.j0])
  | succ kj1 =>
   have H := HA.out; clear HA; simp only [impl_PlanOk.j0] at H; by_cases c11 : x21_1 = true
   ·
    subst c11; rw [if_pos rfl] at H; obtain rfl := Option.some.inj H; go_wp2
    go_ret; exact ⟨ux, uB1 HB GE101.out⟩
   ·
    replace c11 := Bool.eq_false_iff.mpr c11; subst c11; rw [if_neg (show ¬ (false = true) by decide)] at H; have H' := Aside0.mk H; clear H; obtain ⟨hcz12_0, hcz12_1, hcz12_2, hfz12_0, hfz12_1, hfz12_2⟩ := bc3 BK101; go_wp2
    go_loopg [25] kj1 (fun kq v25 w' => ∃ (x25_2 : Int), v25 = .int .i64 x25_2 ∧ Aside0 (impl_PlanOk.l0 kq l0_2 (l0_2.length : Int) x25_2 a0_0 a0_1 l0_2 = some r) ∧ Aside0 (kq ≤ kj1) ∧ Aside0 (w'.heap[gb101]? = some (.cells #[.int .i64 a0_0, .int .i64 a0_1, (.slice A0_2 l0_2.length c0_2)] 25 (0, 0))) ∧ Aside0 (Below w.heap.size w w'))
    case atStart => exact ⟨(0), ue, H', ⟨Nat.le_refl _⟩, ⟨ub BK101⟩, ⟨uB1 HB GE101.out⟩⟩
    case round =>
     clear H'
     clear hcz12_0 hcz12_1 hcz12_2 hfz12_0 hfz12_1 hfz12_2
     obtain ⟨x25_2, rfl, HA, HK2, BK101, HB⟩ := hrel
     cases gk with
     | zero => exact absurd HA.out (by simp [impl_PlanOk.l0])
     | succ k2 =>
      have H := HA.out; clear HA; simp only [impl_PlanOk.l0] at H; by_cases c13 : x25_2 < (l0_2.length : Int)
      ·
       rw [if_pos c13] at H; have c13b0 := dl c13; clear c13; by_cases c14 : 0 ≤ x25_2
       ·
        rw [if_pos c14] at H; have c14b0 := de c14; clear c14; by_cases c15 : x25_2 < (l0_2.length : Int)
        ·
         rw [if_pos c15] at H; have c15b0 := dl c15; clear c15; have HC16 := Aside0.mk H; clear H; have p104 : 0 ≤ (x25_2 : Int) := ua; have q104 : x25_2 < (l0_2.length : Int) := ua; obtain ⟨ad104, e104, hx104_0, hx104_1, hx104_2, hx104_3, hx104_4⟩ := at_T32 HR0_2.out x25_2 p104 q104
         cases e104
         replace hx104_0 := uc HB hx104_0; replace hx104_1 := uc HB hx104_1; replace hx104_2 := uc HB hx104_2; replace hx104_3 := uc HB hx104_3; replace hx104_4 := uc HB hx104_4; replace p104 := eq_true p104; replace q104 := eq_true q104; go_upto_region 6 with (((with_reducible refine gate_dst (N := 4) rfl ?_); refine be (cs := #[.int .i64 0, .int .i64 0, .int .i64 0, .int .i64 0, .int .i64 0]) (t := 32) ?_; intro gb105 hg w17 hbox hb; have BK105 := Aside0.mk (hbox); have GW105 := gz w hg (uB1 HB GE101.out); have GE105 := gz w hg (uB1 HB GE101.out); replace HB := Aside0.mk (below_step (uB1 HB GE101.out) hb); have NB101_105 := gl hg BK101; have NB105_101 := gr hg BK101; replace BK101 := bb BK101 hb; clear hb hbox hg; have hnb18 := NB105_101.out; have hnc18 := NB101_105.out; obtain ⟨hcz19_0, hcz19_1, hcz19_2, hcz19_3, hcz19_4, hfz19_0, hfz19_1, hfz19_2, hfz19_3, hfz19_4⟩ := bc5 BK105))
         go_cut [63] (fun v63 wc => ∃ (kq : Nat) (x63_15 : Bool), v63 = .bool x63_15 ∧ Aside0 (impl_PlanOk.j2 kq x25_2 l0_2 (l0_2.length : Int) x25_2 x63_15 a0_0 a0_1 l0_2 ((rd_T32 l0_2 x25_2).f0) ((rd_T32 l0_2 x25_2).f1) ((rd_T32 l0_2 x25_2).f2) ((rd_T32 l0_2 x25_2).f3) ((rd_T32 l0_2 x25_2).f4) = some r) ∧ Aside0 (kq ≤ k2) ∧ Aside0 (wc.heap[gb101]? = some (.cells #[.int .i64 a0_0, .int .i64 a0_1, (.slice (some ad104) l0_2.length c0_2)] 25 (0, 0))) ∧ Aside0 (wc.heap[gb105]? = some (.cells #[.int .i64 ((rd_T32 l0_2 x25_2).f0), .int .i64 ((rd_T32 l0_2 x25_2).f1), .int .i64 ((rd_T32 l0_2 x25_2).f2), .int .i64 ((rd_T32 l0_2 x25_2).f3), .int .i64 ((rd_T32 l0_2 x25_2).f4)] 32 (0, 0))) ∧ Aside0 (Below w.heap.size w wc))
         case first =>
          have H := HC16.out; clear HC16; replace H := Option.bind_eq_some_iff.mp H; obtain ⟨t106, A200, H⟩ := H; replace H : (if t106 = true then ((impl_Plan_stop.f a0_0 a0_1 l0_2 ((rd_T32 l0_2 x25_2).f1)).bind fun t107 => (if t107 = true then (if ((rd_T32 l0_2 x25_2).f0) = ((rd_T32 l0_2 x25_2).f1) then (impl_PlanOk.j2 k2 x25_2 l0_2 (l0_2.length : Int) x25_2 true a0_0 a0_1 l0_2 ((rd_T32 l0_2 x25_2).f0) ((rd_T32 l0_2 x25_2).f1) ((rd_T32 l0_2 x25_2).f2) ((rd_T32 l0_2 x25_2).f3) ((rd_T32 l0_2 x25_2).f4)) else ((impl_Step_valid.f ((rd_T32 l0_2 x25_2).f2) ((rd_T32 l0_2 x25_2).f3)).bind fun t108 => (if t108 = true then ((impl_within.f ((rd_T32 l0_2 x25_2).f4) 0 5).bind fun t109 => (impl_PlanOk.j2 k2 x25_2 l0_2 (l0_2.length : Int) x25_2 (!t109) a0_0 a0_1 l0_2 ((rd_T32 l0_2 x25_2).f0) ((rd_T32 l0_2 x25_2).f1) ((rd_T32 l0_2 x25_2).f2) ((rd_T32 l0_2 x25_2).f3) ((rd_T32 l0_2 x25_2).f4))) else (impl_PlanOk.j2 k2 x25_2 l0_2 (l0_2.length : Int) x25_2 true a0_0 a0_1 l0_2 ((rd_T32 l0_2 x25_2).f0) ((rd_T32 l0_2 x25_2).f1) ((rd_T32 l0_2 x25_2).f2) ((rd_T32 l0_2 x25_2).f3) ((rd_T32 l0_2 x25_2).f4))))) else (impl_PlanOk.j2 k2 x25_2 l0_2 (l0_2.length : Int) x25_2 true a0_0 a0_1 l0_2 ((rd_T32 l0_2 x25_2).f0) ((rd_T32 l0_2 x25_2).f1) ((rd_T32 l0_2 x25_2).f2) ((rd_T32 l0_2 x25_2).f3) ((rd_T32 l0_2 x25_2).f4)))) else (impl_PlanOk.j2 k2 x25_2 l0_2 (l0_2.length : Int) x25_2 true a0_0 a0_1 l0_2 ((rd_T32 l0_2 x25_2).f0) ((rd_T32 l0_2 x25_2).f1) ((rd_T32 l0_2 x25_2).f2) ((rd_T32 l0_2 x25_2).f3) ((rd_T32 l0_2 x25_2).f4))) = some r := H; have A20 := Aside0.mk A200; clear A200; by_cases c21 : t106 = true
          ·
           subst c21; rw [if_pos rfl] at H; replace H := Option.bind_eq_some_iff.mp H; obtain ⟨t107, A220, H⟩ := H; replace H : (if t107 = true then (if ((rd_T32 l0_2 x25_2).f0) = ((rd_T32 l0_2 x25_2).f1) then (impl_PlanOk.j2 k2 x25_2 l0_2 (l0_2.length : Int) x25_2 true a0_0 a0_1 l0_2 ((rd_T32 l0_2 x25_2).f0) ((rd_T32 l0_2 x25_2).f1) ((rd_T32 l0_2 x25_2).f2) ((rd_T32 l0_2 x25_2).f3) ((rd_T32 l0_2 x25_2).f4)) else ((impl_Step_valid.f ((rd_T32 l0_2 x25_2).f2) ((rd_T32 l0_2 x25_2).f3)).bind fun t108 => (if t108 = true then ((impl_within.f ((rd_T32 l0_2 x25_2).f4) 0 5).bind fun t109 => (impl_PlanOk.j2 k2 x25_2 l0_2 (l0_2.length : Int) x25_2 (!t109) a0_0 a0_1 l0_2 ((rd_T32 l0_2 x25_2).f0) ((rd_T32 l0_2 x25_2).f1) ((rd_T32 l0_2 x25_2).f2) ((rd_T32 l0_2 x25_2).f3) ((rd_T32 l0_2 x25_2).f4))) else (impl_PlanOk.j2 k2 x25_2 l0_2 (l0_2.length : Int) x25_2 true a0_0 a0_1 l0_2 ((rd_T32 l0_2 x25_2).f0) ((rd_T32 l0_2 x25_2).f1) ((rd_T32 l0_2 x25_2).f2) ((rd_T32 l0_2 x25_2).f3) ((rd_T32 l0_2 x25_2).f4))))) else (impl_PlanOk.j2 k2 x25_2 l0_2 (l0_2.length : Int) x25_2 true a0_0 a0_1 l0_2 ((rd_T32 l0_2 x25_2).f0) ((rd_T32 l0_2 x25_2).f1) ((rd_T32 l0_2 x25_2).f2) ((rd_T32 l0_2 x25_2).f3) ((rd_T32 l0_2 x25_2).f4))) = some r := H; have A22 := Aside0.mk A220; clear A220; by_cases c23 : t107 = true
           ·
            subst c23; rw [if_pos rfl] at H; by_cases c24 : ((rd_T32 l0_2 x25_2).f0) = ((rd_T32 l0_2 x25_2).f1)
            ·
             rw [if_pos c24] at H; obtain ⟨c24b0, c24b1⟩ := dq c24; clear c24; (skip); have H' := Aside0.mk H; clear H; have hnb25 := NB101_105.out; have hnc25 := NB105_101.out; obtain ⟨hcz26_0, hcz26_1, hcz26_2, hfz26_0, hfz26_1, hfz26_2⟩ := bc3 BK101; obtain ⟨hcz27_0, hcz27_1, hcz27_2, hcz27_3, hcz27_4, hfz27_0, hfz27_1, hfz27_2, hfz27_3, hfz27_4⟩ := bc5 BK105; go_wp2_with (first | (go_at_call 69; (with_reducible refine (impl_Plan_stop.calls a0_0 a0_1 _ _ l0_2 ((rd_T32 l0_2 x25_2).f0) true _ ?side1 ?side2 A20.out).mono ?_); (case side1 => exact Kd.C_below HR0_2.out (uB2 HB GE101.out GE105.out)); (case side2 => exact HC0_2.out); rintro e w28 ⟨rfl, hb⟩; replace BK101 := Aside0.mk (blk_below (g := gb101) (o := .cells #[.int .i64 a0_0, .int .i64 a0_1, .slice (some ad104) l0_2.length c0_2] 25 (0, 0)) (by (with_reducible repeat first | apply zbn | apply zbd | apply zba); refine fa5 ?_ NB101_105; exact ub BK101) hb); replace BK105 := Aside0.mk (blk_below (g := gb105) (o := .cells #[.int .i64 ((rd_T32 l0_2 x25_2).f0), .int .i64 ((rd_T32 l0_2 x25_2).f1), .int .i64 ((rd_T32 l0_2 x25_2).f2), .int .i64 ((rd_T32 l0_2 x25_2).f3), .int .i64 ((rd_T32 l0_2 x25_2).f4)] 32 (0, 0)) (by (with_reducible repeat first | apply zbn | apply zbd | apply zba); refine pu5 (.int .i64 0) (.int .i64 0) (.int .i64 0) (.int .i64 0) (.int .i64 0) ?_; exact ub BK105) hb); replace HB := Aside0.mk (below_step (uB2 HB GE101.out GE105.out) hb); (try clear hb); obtain ⟨hcz29_0, hcz29_1, hcz29_2, hfz29_0, hfz29_1, hfz29_2⟩ := bc3 BK101; obtain ⟨hcz30_0, hcz30_1, hcz30_2, hcz30_3, hcz30_4, hfz30_0, hfz30_1, hfz30_2, hfz30_3, hfz30_4⟩ := bc5 BK105) | (go_at_call 69; (with_reducible refine (impl_Plan_stop.calls a0_0 a0_1 _ _ l0_2 ((rd_T32 l0_2 x25_2).f1) true _ ?side1 ?side2 A22.out).mono ?_); (case side1 => exact uC HR0_2 HB); (case side2 => exact HC0_2.out); rintro e w31 ⟨rfl, hb⟩; replace BK101 := bb BK101 hb; replace BK105 := bb BK105 hb; replace HB := Aside0.mk (below_step (uB2 HB GE101.out GE105.out) hb); (try clear hb); obtain ⟨hcz32_0, hcz32_1, hcz32_2, hcz32_3, hcz32_4, hfz32_0, hfz32_1, hfz32_2, hfz32_3, hfz32_4⟩ := bc5 BK105))
             go_meet
             case rel => exact ⟨_, (true), ue, H', ⟨by have := HJ1.out; have := HK2.out; first | omega | exact Nat.le_refl _⟩, ⟨ub BK101⟩, ⟨ub BK105⟩, ⟨uB2 HB GE101.out GE105.out⟩⟩
            ·
             rw [if_neg c24] at H; obtain ⟨c24b0, c24b1⟩ := dQ c24; (skip); replace H := Option.bind_eq_some_iff.mp H; obtain ⟨t108, A330, H⟩ := H; replace H : (if t108 = true then ((impl_within.f ((rd_T32 l0_2 x25_2).f4) 0 5).bind fun t109 => (impl_PlanOk.j2 k2 x25_2 l0_2 (l0_2.length : Int) x25_2 (!t109) a0_0 a0_1 l0_2 ((rd_T32 l0_2 x25_2).f0) ((rd_T32 l0_2 x25_2).f1) ((rd_T32 l0_2 x25_2).f2) ((rd_T32 l0_2 x25_2).f3) ((rd_T32 l0_2 x25_2).f4))) else (impl_PlanOk.j2 k2 x25_2 l0_2 (l0_2.length : Int) x25_2 true a0_0 a0_1 l0_2 ((rd_T32 l0_2 x25_2).f0) ((rd_T32 l0_2 x25_2).f1) ((rd_T32 l0_2 x25_2).f2) ((rd_T32 l0_2 x25_2).f3) ((rd_T32 l0_2 x25_2).f4))) = some r := H; have A33 := Aside0.mk A330; clear A330; by_cases c34 : t108 = true
             ·
              subst c34; rw [if_pos rfl] at H; replace H := Option.bind_eq_some_iff.mp H; obtain ⟨t109, A350, H⟩ := H; replace H : (impl_PlanOk.j2 k2 x25_2 l0_2 (l0_2.length : Int) x25_2 (!t109) a0_0 a0_1 l0_2 ((rd_T32 l0_2 x25_2).f0) ((rd_T32 l0_2 x25_2).f1) ((rd_T32 l0_2 x25_2).f2) ((rd_T32 l0_2 x25_2).f3) ((rd_T32 l0_2 x25_2).f4)) = some r := H; have A35 := Aside0.mk A350; clear A350; have H' := Aside0.mk H; clear H; have hnb36 := NB101_105.out; have hnc36 := NB105_101.out; obtain ⟨hcz37_0, hcz37_1, hcz37_2, hfz37_0, hfz37_1, hfz37_2⟩ := bc3 BK101; obtain ⟨hcz38_0, hcz38_1, hcz38_2, hcz38_3, hcz38_4, hfz38_0, hfz38_1, hfz38_2, hfz38_3, hfz38_4⟩ := bc5 BK105; go_wp2_with (first | (go_at_call 69; (with_reducible refine (impl_Plan_stop.calls a0_0 a0_1 _ _ l0_2 ((rd_T32 l0_2 x25_2).f0) true _ ?side1 ?side2 A20.out).mono ?_); (case side1 => exact Kd.C_below HR0_2.out (uB2 HB GE101.out GE105.out)); (case side2 => exact HC0_2.out); rintro e w39 ⟨rfl, hb⟩; replace BK101 := Aside0.mk (blk_below (g := gb101) (o := .cells #[.int .i64 a0_0, .int .i64 a0_1, .slice (some ad104) l0_2.length c0_2] 25 (0, 0)) (by (with_reducible repeat first | apply zbn | apply zbd | apply zba); refine fa5 ?_ NB101_105; exact ub BK101) hb); replace BK105 := Aside0.mk (blk_below (g := gb105) (o := .cells #[.int .i64 ((rd_T32 l0_2 x25_2).f0), .int .i64 ((rd_T32 l0_2 x25_2).f1), .int .i64 ((rd_T32 l0_2 x25_2).f2), .int .i64 ((rd_T32 l0_2 x25_2).f3), .int .i64 ((rd_T32 l0_2 x25_2).f4)] 32 (0, 0)) (by (with_reducible repeat first | apply zbn | apply zbd | apply zba); refine pu5 (.int .i64 0) (.int .i64 0) (.int .i64 0) (.int .i64 0) (.int .i64 0) ?_; exact ub BK105) hb); replace HB := Aside0.mk (below_step (uB2 HB GE101.out GE105.out) hb); (try clear hb); obtain ⟨hcz40_0, hcz40_1, hcz40_2, hfz40_0, hfz40_1, hfz40_2⟩ := bc3 BK101; obtain ⟨hcz41_0, hcz41_1, hcz41_2, hcz41_3, hcz41_4, hfz41_0, hfz41_1, hfz41_2, hfz41_3, hfz41_4⟩ := bc5 BK105) | (go_at_call 69; (with_reducible refine (impl_Plan_stop.calls a0_0 a0_1 _ _ l0_2 ((rd_T32 l0_2 x25_2).f1) true _ ?side1 ?side2 A22.out).mono ?_); (case side1 => exact uC HR0_2 HB); (case side2 => exact HC0_2.out); rintro e w42 ⟨rfl, hb⟩; replace BK101 := bb BK101 hb; replace BK105 := bb BK105 hb; replace HB := Aside0.mk (below_step (uB2 HB GE101.out GE105.out) hb); (try clear hb); obtain ⟨hcz43_0, hcz43_1, hcz43_2, hcz43_3, hcz43_4, hfz43_0, hfz43_1, hfz43_2, hfz43_3, hfz43_4⟩ := bc5 BK105) | (go_at_call 70; (with_reducible refine (impl_Step_valid.calls ((rd_T32 l0_2 x25_2).f2) ((rd_T32 l0_2 x25_2).f3) true _ A33.out).mono ?_); rintro e w44 ⟨rfl, hb⟩; replace BK101 := bb BK101 hb; replace BK105 := bb BK105 hb; replace HB := Aside0.mk (below_step (uB2 HB GE101.out GE105.out) hb); (try clear hb); obtain ⟨hcz45_0, hcz45_1, hcz45_2, hcz45_3, hcz45_4, hfz45_0, hfz45_1, hfz45_2, hfz45_3, hfz45_4⟩ := bc5 BK105) | (go_at_call 68; (with_reducible refine (impl_within.calls ((rd_T32 l0_2 x25_2).f4) 0 5 t109 _ A35.out).mono ?_); rintro e w' ⟨rfl, ⟨nd, rfl⟩⟩))
              go_meet
              case rel => exact ⟨_, (!t109), ue, H', ⟨by have := HJ1.out; have := HK2.out; first | omega | exact Nat.le_refl _⟩, ⟨ub BK101⟩, ⟨ub BK105⟩, ⟨uB2 HB GE101.out GE105.out⟩⟩
             ·
              replace c34 := Bool.eq_false_iff.mpr c34; subst c34; rw [if_neg (show ¬ (false = true) by decide)] at H; have H' := Aside0.mk H; clear H; have hnb46 := NB101_105.out; have hnc46 := NB105_101.out; obtain ⟨hcz47_0, hcz47_1, hcz47_2, hfz47_0, hfz47_1, hfz47_2⟩ := bc3 BK101; obtain ⟨hcz48_0, hcz48_1, hcz48_2, hcz48_3, hcz48_4, hfz48_0, hfz48_1, hfz48_2, hfz48_3, hfz48_4⟩ := bc5 BK105; go_wp2_with (first | (go_at_call 69; (with_reducible refine (impl_Plan_stop.calls a0_0 a0_1 _ _ l0_2 ((rd_T32 l0_2 x25_2).f0) true _ ?side1 ?side2 A20.out).mono ?_); (case side1 => exact Kd.C_below HR0_2.out (uB2 HB GE101.out GE105.out)); (case side2 => exact HC0_2.out); rintro e w49 ⟨rfl, hb⟩; replace BK101 := Aside0.mk (blk_below (g := gb101) (o := .cells #[.int .i64 a0_0, .int .i64 a0_1, .slice (some ad104) l0_2.length c0_2] 25 (0, 0)) (by (with_reducible repeat first | apply zbn | apply zbd | apply zba); refine fa5 ?_ NB101_105; exact ub BK101) hb); replace BK105 := Aside0.mk (blk_below (g := gb105) (o := .cells #[.int .i64 ((rd_T32 l0_2 x25_2).f0), .int .i64 ((rd_T32 l0_2 x25_2).f1), .int .i64 ((rd_T32 l0_2 x25_2).f2), .int .i64 ((rd_T32 l0_2 x25_2).f3), .int .i64 ((rd_T32 l0_2 x25_2).f4)] 32 (0, 0)) (by (with_reducible repeat first | apply zbn | apply zbd | apply zba); refine pu5 (.int .i64 0) (.int .i64 0) (.int .i64 0) (.int .i64 0) (.int .i64 0) ?_; exact ub BK105) hb); replace HB := Aside0.mk (below_step (uB2 HB GE101.out GE105.out) hb); (try clear hb); obtain ⟨hcz50_0, hcz50_1, hcz50_2, hfz50_0, hfz50_1, hfz50_2⟩ := bc3 BK101; obtain ⟨hcz51_0, hcz51_1, hcz51_2, hcz51_3, hcz51_4, hfz51_0, hfz51_1, hfz51_2, hfz51_3, hfz51_4⟩ := bc5 BK105) | (go_at_call 69; (with_reducible refine (impl_Plan_stop.calls a0_0 a0_1 _ _ l0_2 ((rd_T32 l0_2 x25_2).f1) true _ ?side1 ?side2 A22.out).mono ?_); (case side1 => exact uC HR0_2 HB); (case side2 => exact HC0_2.out); rintro e w52 ⟨rfl, hb⟩; replace BK101 := bb BK101 hb; replace BK105 := bb BK105 hb; replace HB := Aside0.mk (below_step (uB2 HB GE101.out GE105.out) hb); (try clear hb); obtain ⟨hcz53_0, hcz53_1, hcz53_2, hcz53_3, hcz53_4, hfz53_0, hfz53_1, hfz53_2, hfz53_3, hfz53_4⟩ := bc5 BK105) | (go_at_call 70; (with_reducible refine (impl_Step_valid.calls ((rd_T32 l0_2 x25_2).f2) ((rd_T32 l0_2 x25_2).f3) false _ A33.out).mono ?_); rintro e w54 ⟨rfl, hb⟩; replace BK101 := bb BK101 hb; replace BK105 := bb BK105 hb; replace HB := Aside0.mk (below_step (uB2 HB GE101.out GE105.out) hb); (try clear hb)))
              go_meet
              case rel => exact ⟨_, (true), ue, H', ⟨by have := HJ1.out; have := HK2.out; first | omega | exact Nat.le_refl _⟩, ⟨ub BK101⟩, ⟨ub BK105⟩, ⟨uB2 HB GE101.out GE105.out⟩⟩
           ·
            replace c23 := Bool.eq_false_iff.mpr c23; subst c23; rw [if_neg (show ¬ (false = true) by decide)] at H; have H' := Aside0.mk H; clear H; have hnb55 := NB101_105.out; have hnc55 := NB105_101.out; obtain ⟨hcz56_0, hcz56_1, hcz56_2, hfz56_0, hfz56_1, hfz56_2⟩ := bc3 BK101; obtain ⟨hcz57_0, hcz57_1, hcz57_2, hcz57_3, hcz57_4, hfz57_0, hfz57_1, hfz57_2, hfz57_3, hfz57_4⟩ := bc5 BK105; go_wp2_with (first | (go_at_call 69; (with_reducible refine (impl_Plan_stop.calls a0_0 a0_1 _ _ l0_2 ((rd_T32 l0_2 x25_2).f0) true _ ?side1 ?side2 A20.out).mono ?_); (case side1 => exact Kd.C_below HR0_2.out (uB2 HB GE101.out GE105.out)); (case side2 => exact HC0_2.out); rintro e w58 ⟨rfl, hb⟩; replace BK101 := Aside0.mk (blk_below (g := gb101) (o := .cells #[.int .i64 a0_0, .int .i64 a0_1, .slice (some ad104) l0_2.length c0_2] 25 (0, 0)) (by (with_reducible repeat first | apply zbn | apply zbd | apply zba); refine fa5 ?_ NB101_105; exact ub BK101) hb); replace BK105 := Aside0.mk (blk_below (g := gb105) (o := .cells #[.int .i64 ((rd_T32 l0_2 x25_2).f0), .int .i64 ((rd_T32 l0_2 x25_2).f1), .int .i64 ((rd_T32 l0_2 x25_2).f2), .int .i64 ((rd_T32 l0_2 x25_2).f3), .int .i64 ((rd_T32 l0_2 x25_2).f4)] 32 (0, 0)) (by (with_reducible repeat first | apply zbn | apply zbd | apply zba); refine pu5 (.int .i64 0) (.int .i64 0) (.int .i64 0) (.int .i64 0) (.int .i64 0) ?_; exact ub BK105) hb); replace HB := Aside0.mk (below_step (uB2 HB GE101.out GE105.out) hb); (try clear hb); obtain ⟨hcz59_0, hcz59_1, hcz59_2, hfz59_0, hfz59_1, hfz59_2⟩ := bc3 BK101; obtain ⟨hcz60_0, hcz60_1, hcz60_2, hcz60_3, hcz60_4, hfz60_0, hfz60_1, hfz60_2, hfz60_3, hfz60_4⟩ := bc5 BK105) | (go_at_call 69; (with_reducible refine (impl_Plan_stop.calls a0_0 a0_1 _ _ l0_2 ((rd_T32 l0_2 x25_2).f1) false _ ?side1 ?side2 A22.out).mono ?_); (case side1 => exact uC HR0_2 HB); (case side2 => exact HC0_2.out); rintro e w61 ⟨rfl, hb⟩; replace BK101 := bb BK101 hb; replace BK105 := bb BK105 hb; replace HB := Aside0.mk (below_step (uB2 HB GE101.out GE105.out) hb); (try clear hb)))
            go_meet
            case rel => exact ⟨_, (true), ue, H', ⟨by have := HJ1.out; have := HK2.out; first | omega | exact Nat.le_refl _⟩, ⟨ub BK101⟩, ⟨ub BK105⟩, ⟨uB2 HB GE101.out GE105.out⟩⟩
          ·
           replace c21 := Bool.eq_false_iff.mpr c21; subst c21; rw [if_neg (show ¬ (false = true) by decide)] at H; have H' := Aside0.mk H; clear H; have hnb62 := NB101_105.out; have hnc62 := NB105_101.out; obtain ⟨hcz63_0, hcz63_1, hcz63_2, hfz63_0, hfz63_1, hfz63_2⟩ := bc3 BK101; obtain ⟨hcz64_0, hcz64_1, hcz64_2, hcz64_3, hcz64_4, hfz64_0, hfz64_1, hfz64_2, hfz64_3, hfz64_4⟩ := bc5 BK105; go_wp2_with ((go_at_call 69; (with_reducible refine (impl_Plan_stop.calls a0_0 a0_1 _ _ l0_2 ((rd_T32 l0_2 x25_2).f0) false _ ?side1 ?side2 A20.out).mono ?_); (case side1 => exact Kd.C_below HR0_2.out (uB2 HB GE101.out GE105.out)); (case side2 => exact HC0_2.out); rintro e w65 ⟨rfl, hb⟩; replace BK101 := Aside0.mk (blk_below (g := gb101) (o := .cells #[.int .i64 a0_0, .int .i64 a0_1, .slice (some ad104) l0_2.length c0_2] 25 (0, 0)) (by (with_reducible repeat first | apply zbn | apply zbd | apply zba); refine fa5 ?_ NB101_105; exact ub BK101) hb); replace BK105 := Aside0.mk (blk_below (g := gb105) (o := .cells #[.int .i64 ((rd_T32 l0_2 x25_2).f0), .int .i64 ((rd_T32 l0_2 x25_2).f1), .int .i64 ((rd_T32 l0_2 x25_2).f2), .int .i64 ((rd_T32 l0_2 x25_2).f3), .int .i64 ((rd_T32 l0_2 x25_2).f4)] 32 (0, 0)) (by (with_reducible repeat first | apply zbn | apply zbd | apply zba); refine pu5 (.int .i64 0) (.int .i64 0) (.int .i64 0) (.int .i64 0) (.int .i64 0) ?_; exact ub BK105) hb); replace HB := Aside0.mk (below_step (uB2 HB GE101.out GE105.out) hb); (try clear hb)))
           go_meet
           case rel => exact ⟨_, (true), ue, H', ⟨by have := HJ1.out; have := HK2.out; first | omega | exact Nat.le_refl _⟩, ⟨ub BK101⟩, ⟨ub BK105⟩, ⟨uB2 HB GE101.out GE105.out⟩⟩
         case rest =>
          clear HC16
          clear c13b0 c14b0 c15b0 hcz19_0 hcz19_1 hcz19_2 hcz19_3 hcz19_4 hfz19_0 hfz19_1 hfz19_2 hfz19_3 hfz19_4 hx104_0 hx104_1 hx104_2 hx104_3 hx104_4 p104 q104
          obtain ⟨kq, x63_15, rfl, HA, HJ15, BK101, BK105, HB⟩ := hcut
          cases kq with
          | zero => exact absurd HA.out (by simp [impl_PlanOk.j2])
          | succ kj15 =>
           have H := HA.out; clear HA; simp only [impl_PlanOk.j2] at H; by_cases c66 : x63_15 = true
           ·
            subst c66; rw [if_pos rfl] at H; obtain rfl := Option.some.inj H; go_wp2
            go_ret; exact ⟨ux, uB2 HB GE101.out GE105.out⟩
           ·
            replace c66 := Bool.eq_false_iff.mpr c66; subst c66; rw [if_neg (show ¬ (false = true) by decide)] at H; have HC67 := Aside0.mk H; clear H; go_upto_region 8 with (fail)
            go_cut [77] (fun v77 wc => ∃ (kq : Nat) (x77_66 : Bool), v77 = .bool x77_66 ∧ Aside0 (impl_PlanOk.j3 kq x25_2 l0_2 (l0_2.length : Int) x25_2 x77_66 a0_0 a0_1 l0_2 ((rd_T32 l0_2 x25_2).f0) ((rd_T32 l0_2 x25_2).f1) ((rd_T32 l0_2 x25_2).f2) ((rd_T32 l0_2 x25_2).f3) ((rd_T32 l0_2 x25_2).f4) = some r) ∧ Aside0 (kq ≤ kj15) ∧ Aside0 (wc.heap[gb101]? = some (.cells #[.int .i64 a0_0, .int .i64 a0_1, (.slice (some ad104) l0_2.length c0_2)] 25 (0, 0))) ∧ Aside0 (wc.heap[gb105]? = some (.cells #[.int .i64 ((rd_T32 l0_2 x25_2).f0), .int .i64 ((rd_T32 l0_2 x25_2).f1), .int .i64 ((rd_T32 l0_2 x25_2).f2), .int .i64 ((rd_T32 l0_2 x25_2).f3), .int .i64 ((rd_T32 l0_2 x25_2).f4)] 32 (0, 0))) ∧ Aside0 (Below w.heap.size w wc))
            case first =>
             have H := HC67.out; clear HC67; by_cases c68 : x25_2 > 0
             ·
              rw [if_pos c68] at H; have c68b0 := dl c68; clear c68; (skip); obtain ⟨ji69, hji69⟩ : ∃ j_ : Int, (wrap64 (x25_2 - 1)) = j_ := ⟨_, rfl⟩
              replace H : (if 0 ≤ (ji69) then (if (ji69) < (l0_2.length : Int) then (impl_PlanOk.j3 kj15 x25_2 l0_2 (l0_2.length : Int) x25_2 (decide (((rd_T32 l0_2 (ji69)).f2) > ((rd_T32 l0_2 x25_2).f2))) a0_0 a0_1 l0_2 ((rd_T32 l0_2 x25_2).f0) ((rd_T32 l0_2 x25_2).f1) ((rd_T32 l0_2 x25_2).f2) ((rd_T32 l0_2 x25_2).f3) ((rd_T32 l0_2 x25_2).f4)) else (none)) else (none)) = some r := by first | (rw [hji69] at H; exact H) | (simp only [hji69] at H ⊢; exact H)
              have hji69w : (IntKind.i64.wrap (x25_2 - 1)) = ji69 := (i64_w _).trans hji69; by_cases c70 : 0 ≤ (ji69)
              ·
               rw [if_pos c70] at H; have c70b0 := de c70; clear c70; by_cases c71 : (ji69) < (l0_2.length : Int)
               ·
                rw [if_pos c71] at H; have c71b0 := dl c71; clear c71; have H' := Aside0.mk H; clear H; have hnb72 := NB101_105.out; have hnc72 := NB105_101.out; obtain ⟨hcz73_0, hcz73_1, hcz73_2, hfz73_0, hfz73_1, hfz73_2⟩ := bc3 BK101; have p110 : 0 ≤ ((ji69) : Int) := ua; have q110 : (ji69) < (l0_2.length : Int) := ua; obtain ⟨ad110, e110, hx110_0, hx110_1, hx110_2, hx110_3, hx110_4⟩ := at_T32 HR0_2.out (ji69) p110 q110; obtain rfl : ad104 = ad110 := (by injection e110)
                replace hx110_0 := uc HB hx110_0; replace hx110_1 := uc HB hx110_1; replace hx110_2 := uc HB hx110_2; replace hx110_3 := uc HB hx110_3; replace hx110_4 := uc HB hx110_4; replace p110 := eq_true p110; replace q110 := eq_true q110; obtain ⟨hcz74_0, hcz74_1, hcz74_2, hcz74_3, hcz74_4, hfz74_0, hfz74_1, hfz74_2, hfz74_3, hfz74_4⟩ := bc5 BK105; go_wp2
                repeat (go_quiet (fail); try go_wp2)
                go_meet
                case rel => exact ⟨_, (decide (((rd_T32 l0_2 (ji69)).f2) > ((rd_T32 l0_2 x25_2).f2))), (by first | rfl | (simp; done) | (simp only [← hji69] <;> (first | rfl | simp)) | (simp [*]; done)), H', ⟨by have := HJ1.out; have := HK2.out; have := HJ15.out; first | omega | exact Nat.le_refl _⟩, ⟨ub BK101⟩, ⟨ub BK105⟩, ⟨uB2 HB GE101.out GE105.out⟩⟩
               ·
                rw [if_neg c71] at H; exact absurd H (by simp)
              ·
               rw [if_neg c70] at H; exact absurd H (by simp)
             ·
              rw [if_neg c68] at H; have c68b0 := DL c68; clear c68; (skip); have H' := Aside0.mk H; clear H; go_wp2
              repeat (go_quiet (fail); try go_wp2)
              go_meet
              case rel => exact ⟨_, (false), ue, H', ⟨by have := HJ1.out; have := HK2.out; have := HJ15.out; first | omega | exact Nat.le_refl _⟩, ⟨ub BK101⟩, ⟨ub BK105⟩, ⟨uB2 HB GE101.out GE105.out⟩⟩
            case rest =>
             clear HC67
             obtain ⟨kq, x77_66, rfl, HA, HJ66, BK101, BK105, HB⟩ := hcut
             cases kq with
             | zero => exact absurd HA.out (by simp [impl_PlanOk.j3])
             | succ kj66 =>
              have H := HA.out; clear HA; simp only [impl_PlanOk.j3] at H; by_cases c75 : x77_66 = true
              ·
               subst c75; rw [if_pos rfl] at H; obtain rfl := Option.some.inj H; go_wp2
               go_ret; exact ⟨ux, uB2 HB GE101.out GE105.out⟩
              ·
               replace c75 := Bool.eq_false_iff.mpr c75; subst c75; rw [if_neg (show ¬ (false = true) by decide)] at H; replace H := Option.bind_eq_some_iff.mp H; obtain ⟨t111, A760, H⟩ := H; replace H : (if t111 ≥ 0 then (if 0 ≤ t111 then (if t111 < (l0_2.length : Int) then (if ((rd_T32 l0_2 t111).f1) = ((rd_T32 l0_2 x25_2).f0) then (if ((rd_T32 l0_2 t111).f3) > ((rd_T32 l0_2 x25_2).f2) then (some false) else (impl_PlanOk.l0 kj66 l0_2 (l0_2.length : Int) (wrap64 (x25_2 + 1)) a0_0 a0_1 l0_2)) else (some false)) else (none)) else (none)) else (impl_PlanOk.l0 kj66 l0_2 (l0_2.length : Int) (wrap64 (x25_2 + 1)) a0_0 a0_1 l0_2)) = some r := H; have A76 := Aside0.mk A760; clear A760; by_cases c77 : t111 ≥ 0
               ·
                rw [if_pos c77] at H; have c77b0 := de c77; clear c77; by_cases c78 : 0 ≤ t111
                ·
                 rw [if_pos c78] at H; have c78b0 := de c78; clear c78; by_cases c79 : t111 < (l0_2.length : Int)
                 ·
                  rw [if_pos c79] at H; have c79b0 := dl c79; clear c79; by_cases c80 : ((rd_T32 l0_2 t111).f1) = ((rd_T32 l0_2 x25_2).f0)
                  ·
                   rw [if_pos c80] at H; obtain ⟨c80b0, c80b1⟩ := dq c80; clear c80; by_cases c81 : ((rd_T32 l0_2 t111).f3) > ((rd_T32 l0_2 x25_2).f2)
                   ·
                    rw [if_pos c81] at H; have c81b0 := dl c81; clear c81; obtain rfl := Option.some.inj H; have hnb82 := NB101_105.out; have hnc82 := NB105_101.out; obtain ⟨hcz83_0, hcz83_1, hcz83_2, hfz83_0, hfz83_1, hfz83_2⟩ := bc3 BK101; go_wp2_with ((go_at_call 71; (with_reducible refine (impl_Plan_before.calls kj66 a0_0 a0_1 _ _ l0_2 x25_2 t111 _ ?side1 ?side2 A76.out).mono ?_); (case side1 => exact uC HR0_2 HB); (case side2 => exact HC0_2.out); rintro e w84 ⟨rfl, hb⟩; replace BK101 := bb BK101 hb; replace BK105 := bb BK105 hb; replace HB := Aside0.mk (below_step (uB2 HB GE101.out GE105.out) hb); (try clear hb); obtain ⟨hcz85_0, hcz85_1, hcz85_2, hfz85_0, hfz85_1, hfz85_2⟩ := bc3 BK101; have p112 : 0 ≤ (t111 : Int) := ua; have q112 : t111 < (l0_2.length : Int) := ua; obtain ⟨ad112, e112, hx112_0, hx112_1, hx112_2, hx112_3, hx112_4⟩ := at_T32 HR0_2.out t111 p112 q112; obtain rfl : ad104 = ad112 := (by injection e112); replace hx112_0 := uc HB hx112_0; replace hx112_1 := uc HB hx112_1; replace hx112_2 := uc HB hx112_2; replace hx112_3 := uc HB hx112_3; replace hx112_4 := uc HB hx112_4; replace p112 := eq_true p112; replace q112 := eq_true q112; obtain ⟨hcz86_0, hcz86_1, hcz86_2, hcz86_3, hcz86_4, hfz86_0, hfz86_1, hfz86_2, hfz86_3, hfz86_4⟩ := bc5 BK105; have p113 : 0 ≤ (t111 : Int) := ua; have q113 : t111 < (l0_2.length : Int) := ua; obtain ⟨ad113, e113, hx113_0, hx113_1, hx113_2, hx113_3, hx113_4⟩ := at_T32 HR0_2.out t111 p113 q113; obtain rfl : ad104 = ad113 := (by injection e113); replace hx113_0 := uc HB hx113_0; replace hx113_1 := uc HB hx113_1; replace hx113_2 := uc HB hx113_2; replace hx113_3 := uc HB hx113_3; replace hx113_4 := uc HB hx113_4; replace p113 := eq_true p113; replace q113 := eq_true q113))
                    repeat (go_quiet (fail); try go_wp2_with (fail))
                    go_ret; exact ⟨ux, uB2 HB GE101.out GE105.out⟩
                   ·
                    rw [if_neg c81] at H; have c81b0 := DL c81; clear c81; have H' := Aside0.mk H; clear H; have hnb87 := NB101_105.out; have hnc87 := NB105_101.out; obtain ⟨hcz88_0, hcz88_1, hcz88_2, hfz88_0, hfz88_1, hfz88_2⟩ := bc3 BK101; go_wp2_with ((go_at_call 71; (with_reducible refine (impl_Plan_before.calls kj66 a0_0 a0_1 _ _ l0_2 x25_2 t111 _ ?side1 ?side2 A76.out).mono ?_); (case side1 => exact uC HR0_2 HB); (case side2 => exact HC0_2.out); rintro e w89 ⟨rfl, hb⟩; replace BK101 := bb BK101 hb; replace BK105 := bb BK105 hb; replace HB := Aside0.mk (below_step (uB2 HB GE101.out GE105.out) hb); (try clear hb); obtain ⟨hcz90_0, hcz90_1, hcz90_2, hfz90_0, hfz90_1, hfz90_2⟩ := bc3 BK101; have p112 : 0 ≤ (t111 : Int) := ua; have q112 : t111 < (l0_2.length : Int) := ua; obtain ⟨ad112, e112, hx112_0, hx112_1, hx112_2, hx112_3, hx112_4⟩ := at_T32 HR0_2.out t111 p112 q112; obtain rfl : ad104 = ad112 := (by injection e112); replace hx112_0 := uc HB hx112_0; replace hx112_1 := uc HB hx112_1; replace hx112_2 := uc HB hx112_2; replace hx112_3 := uc HB hx112_3; replace hx112_4 := uc HB hx112_4; replace p112 := eq_true p112; replace q112 := eq_true q112; obtain ⟨hcz91_0, hcz91_1, hcz91_2, hcz91_3, hcz91_4, hfz91_0, hfz91_1, hfz91_2, hfz91_3, hfz91_4⟩ := bc5 BK105; have p113 : 0 ≤ (t111 : Int) := ua; have q113 : t111 < (l0_2.length : Int) := ua; obtain ⟨ad113, e113, hx113_0, hx113_1, hx113_2, hx113_3, hx113_4⟩ := at_T32 HR0_2.out t111 p113 q113; obtain rfl : ad104 = ad113 := (by injection e113); replace hx113_0 := uc HB hx113_0; replace hx113_1 := uc HB hx113_1; replace hx113_2 := uc HB hx113_2; replace hx113_3 := uc HB hx113_3; replace hx113_4 := uc HB hx113_4; replace p113 := eq_true p113; replace q113 := eq_true q113))
                    repeat (go_quiet (fail); try go_wp2_with (fail))
                    go_roundg kj66
                    case measure => have := HJ1.out; have := HK2.out; have := HJ15.out; have := HJ66.out; omega
                    case rel => exact ⟨(wrap64 (x25_2 + 1)), ue, H', ⟨by have := HJ1.out; have := HK2.out; have := HJ15.out; have := HJ66.out; omega⟩, ⟨ub BK101⟩, ⟨uB2 HB GE101.out GE105.out⟩⟩
                  ·
                   rw [if_neg c80] at H; obtain ⟨c80b0, c80b1⟩ := dQ c80; obtain rfl := Option.some.inj H; have hnb92 := NB101_105.out; have hnc92 := NB105_101.out; obtain ⟨hcz93_0, hcz93_1, hcz93_2, hfz93_0, hfz93_1, hfz93_2⟩ := bc3 BK101; go_wp2_with ((go_at_call 71; (with_reducible refine (impl_Plan_before.calls kj66 a0_0 a0_1 _ _ l0_2 x25_2 t111 _ ?side1 ?side2 A76.out).mono ?_); (case side1 => exact uC HR0_2 HB); (case side2 => exact HC0_2.out); rintro e w94 ⟨rfl, hb⟩; replace BK101 := bb BK101 hb; replace BK105 := bb BK105 hb; replace HB := Aside0.mk (below_step (uB2 HB GE101.out GE105.out) hb); (try clear hb); obtain ⟨hcz95_0, hcz95_1, hcz95_2, hfz95_0, hfz95_1, hfz95_2⟩ := bc3 BK101; have p112 : 0 ≤ (t111 : Int) := ua; have q112 : t111 < (l0_2.length : Int) := ua; obtain ⟨ad112, e112, hx112_0, hx112_1, hx112_2, hx112_3, hx112_4⟩ := at_T32 HR0_2.out t111 p112 q112; obtain rfl : ad104 = ad112 := (by injection e112); replace hx112_0 := uc HB hx112_0; replace hx112_1 := uc HB hx112_1; replace hx112_2 := uc HB hx112_2; replace hx112_3 := uc HB hx112_3; replace hx112_4 := uc HB hx112_4; replace p112 := eq_true p112; replace q112 := eq_true q112; obtain ⟨hcz96_0, hcz96_1, hcz96_2, hcz96_3, hcz96_4, hfz96_0, hfz96_1, hfz96_2, hfz96_3, hfz96_4⟩ := bc5 BK105))
                   repeat (go_quiet (fail); try go_wp2_with (fail))
                   go_ret; exact ⟨ux, uB2 HB GE101.out GE105.out⟩
                 ·
                  rw [if_neg c79] at H; exact absurd H (by simp)
                ·
                 rw [if_neg c78] at H; exact absurd H (by simp)
               ·
                rw [if_neg c77] at H; have c77b0 := DE c77; clear c77; have H' := Aside0.mk H; clear H; have hnb97 := NB101_105.out; have hnc97 := NB105_101.out; obtain ⟨hcz98_0, hcz98_1, hcz98_2, hfz98_0, hfz98_1, hfz98_2⟩ := bc3 BK101; go_wp2_with ((go_at_call 71; (with_reducible refine (impl_Plan_before.calls kj66 a0_0 a0_1 _ _ l0_2 x25_2 t111 _ ?side1 ?side2 A76.out).mono ?_); (case side1 => exact uC HR0_2 HB); (case side2 => exact HC0_2.out); rintro e w99 ⟨rfl, hb⟩; replace BK101 := bb BK101 hb; replace BK105 := bb BK105 hb; replace HB := Aside0.mk (below_step (uB2 HB GE101.out GE105.out) hb); (try clear hb)))
                repeat (go_quiet (fail); try go_wp2_with (fail))
                go_roundg kj66
                case measure => have := HJ1.out; have := HK2.out; have := HJ15.out; have := HJ66.out; omega
                case rel => exact ⟨(wrap64 (x25_2 + 1)), ue, H', ⟨by have := HJ1.out; have := HK2.out; have := HJ15.out; have := HJ66.out; omega⟩, ⟨ub BK101⟩, ⟨uB2 HB GE101.out GE105.out⟩⟩
        ·
         rw [if_neg c15] at H; exact absurd H (by simp)
       ·
        rw [if_neg c14] at H; exact absurd H (by simp)
      ·
       rw [if_neg c13] at H; have c13b0 := DL c13; clear c13; obtain rfl := Option.some.inj H; go_wp2
       go_ret; exact ⟨ux, uB1 HB GE101.out⟩

end Go.Proofs.Ytcklifkbodmoaaa.P
namespace Go.Proofs.Ytcklifkbodmoaaa.P
open Go.RowKit Go.Proofs.YtcklifkbodmoaaaV.PrintWords Go.Proofs.YtcklifkbodmoaaaV.PrintLast
set_option linter.unusedVariables false
set_option linter.unusedSimpArgs false

/-! ### impl_planIn: function 62 -/
def impl_planIn.f (k : Nat) (a0_0 : Int) (a0_1 : Int) (l0_2 : List (S32)) (a1 : Int) (a2 : Int) : Option (Bool) := (impl_PlanOk.f k a0_0 a0_1 l0_2).bind fun t102 => (if t102 = true then ((impl_Plan_stop.f a0_0 a0_1 l0_2 a1).bind fun t103 => (if t103 = true then ((impl_timeOk.f a2).bind fun t104 => (some t104)) else (some false))) else (some false))
set_option maxHeartbeats 8000000 in
set_option maxRecDepth 100000 in
theorem impl_planIn.calls (k : Nat) (a0_0 : Int) (a0_1 : Int) (A0_2 : Option Addr) (c0_2 : Nat) (l0_2 : List (S32)) (a1 : Int) (a2 : Int) (r : Bool) (w : World) (hr0_2 : Kd.C k32 w A0_2 l0_2.length l0_2) (hc0_2 : l0_2.length ≤ c0_2) (h : impl_planIn.f k a0_0 a0_1 l0_2 a1 a2 = some r) :
  Calls Try.prog 62 #[.agg #[.int .i64 a0_0, .int .i64 a0_1, .slice A0_2 l0_2.length c0_2], .int .i64 a1, .int .i64 a2] w fun e w' => e = .returned (.bool r) ∧ Below w.heap.size w w' := by
 have hu25 := Try.underlying25
 have HR0_2 := Aside0.mk hr0_2
 have HC0_2 := Aside0.mk hc0_2
 clear hr0_2 hc0_2
 have HB := Aside0.mk (Below.refl w.heap.size w)
 have H : ((impl_PlanOk.f k a0_0 a0_1 l0_2).bind fun t102 => (if t102 = true then ((impl_Plan_stop.f a0_0 a0_1 l0_2 a1).bind fun t103 => (if t103 = true then ((impl_timeOk.f a2).bind fun t104 => (some t104)) else (some false))) else (some false))) = some r := h
 clear h
 replace H := Option.bind_eq_some_iff.mp H
 obtain ⟨t102, A40, H⟩ := H
 replace H : (if t102 = true then ((impl_Plan_stop.f a0_0 a0_1 l0_2 a1).bind fun t103 => (if t103 = true then ((impl_timeOk.f a2).bind fun t104 => (some t104)) else (some false))) else (some false)) = some r := H
 have A4 := Aside0.mk A40
 clear A40
 by_cases c5 : t102 = true
 ·
  subst c5; rw [if_pos rfl] at H; replace H := Option.bind_eq_some_iff.mp H; obtain ⟨t103, A60, H⟩ := H; replace H : (if t103 = true then ((impl_timeOk.f a2).bind fun t104 => (some t104)) else (some false)) = some r := H; have A6 := Aside0.mk A60; clear A60; by_cases c7 : t103 = true
  ·
   subst c7; rw [if_pos rfl] at H; replace H := Option.bind_eq_some_iff.mp H; obtain ⟨t104, A80, H⟩ := H; replace H : (some t104) = some r := H; have A8 := Aside0.mk A80; clear A80; obtain rfl := Option.some.inj H; go_enter Try.func62, Try.ntmps62; go_wp2_with (first | ((with_reducible refine gate_dst (N := 3) rfl ?_); refine be (cs := #[.int .i64 a0_0, .int .i64 a0_1, .slice A0_2 l0_2.length c0_2]) (t := 25) ?_; intro gb101 hg w9 hbox hb; have BK101 := Aside0.mk (hbox); have GW101 := gz w hg (uB0 HB); have GE101 := gz w hg (uB0 HB); replace HB := Aside0.mk (below_step (uB0 HB) hb); clear hb hbox hg; obtain ⟨hcz10_0, hcz10_1, hcz10_2, hfz10_0, hfz10_1, hfz10_2⟩ := bc3 BK101) | ((with_reducible refine gate_callee (f := 21) rfl ?_); refine goesL_ (some 8) rfl rfl Try.func21 (by kernel_rfl) rfl #[.agg #[.int .i64 a0_0, .int .i64 a0_1, .slice A0_2 l0_2.length c0_2]] rfl ul ?_; (with_reducible refine (impl_PlanOk.calls k a0_0 a0_1 _ _ l0_2 true _ ?side1 ?side2 A4.out).mono ?_); (case side1 => exact uC HR0_2 HB); (case side2 => exact HC0_2.out); rintro e w11 ⟨rfl, hb⟩; refine ⟨_, rfl, ?_⟩; replace BK101 := bb BK101 hb; replace HB := Aside0.mk (below_step (uB1 HB GE101.out) hb); (try clear hb); obtain ⟨hcz12_0, hcz12_1, hcz12_2, hfz12_0, hfz12_1, hfz12_2⟩ := bc3 BK101) | (go_at_call 69; (with_reducible refine (impl_Plan_stop.calls a0_0 a0_1 _ _ l0_2 a1 true _ ?side1 ?side2 A6.out).mono ?_); (case side1 => exact uC HR0_2 HB); (case side2 => exact HC0_2.out); rintro e w13 ⟨rfl, hb⟩; replace BK101 := bb BK101 hb; replace HB := Aside0.mk (below_step (uB1 HB GE101.out) hb); (try clear hb)) | (go_at_call 78; (with_reducible refine (impl_timeOk.calls a2 t104 _ A8.out).mono ?_); rintro e w' ⟨rfl, ⟨nd, rfl⟩⟩)); go_ret; exact ⟨ux, uB1 HB GE101.out⟩
  ·
   replace c7 := Bool.eq_false_iff.mpr c7; subst c7; rw [if_neg (show ¬ (false = true) by decide)] at H; obtain rfl := Option.some.inj H; go_enter Try.func62, Try.ntmps62; go_wp2_with (first | ((with_reducible refine gate_dst (N := 3) rfl ?_); refine be (cs := #[.int .i64 a0_0, .int .i64 a0_1, .slice A0_2 l0_2.length c0_2]) (t := 25) ?_; intro gb101 hg w14 hbox hb; have BK101 := Aside0.mk (hbox); have GW101 := gz w hg (uB0 HB); have GE101 := gz w hg (uB0 HB); replace HB := Aside0.mk (below_step (uB0 HB) hb); clear hb hbox hg; obtain ⟨hcz15_0, hcz15_1, hcz15_2, hfz15_0, hfz15_1, hfz15_2⟩ := bc3 BK101) | ((with_reducible refine gate_callee (f := 21) rfl ?_); refine goesL_ (some 8) rfl rfl Try.func21 (by kernel_rfl) rfl #[.agg #[.int .i64 a0_0, .int .i64 a0_1, .slice A0_2 l0_2.length c0_2]] rfl ul ?_; (with_reducible refine (impl_PlanOk.calls k a0_0 a0_1 _ _ l0_2 true _ ?side1 ?side2 A4.out).mono ?_); (case side1 => exact uC HR0_2 HB); (case side2 => exact HC0_2.out); rintro e w16 ⟨rfl, hb⟩; refine ⟨_, rfl, ?_⟩; replace BK101 := bb BK101 hb; replace HB := Aside0.mk (below_step (uB1 HB GE101.out) hb); (try clear hb); obtain ⟨hcz17_0, hcz17_1, hcz17_2, hfz17_0, hfz17_1, hfz17_2⟩ := bc3 BK101) | (go_at_call 69; (with_reducible refine (impl_Plan_stop.calls a0_0 a0_1 _ _ l0_2 a1 false _ ?side1 ?side2 A6.out).mono ?_); (case side1 => exact uC HR0_2 HB); (case side2 => exact HC0_2.out); rintro e w18 ⟨rfl, hb⟩; replace BK101 := bb BK101 hb; replace HB := Aside0.mk (below_step (uB1 HB GE101.out) hb); (try clear hb))); go_ret; exact ⟨ux, uB1 HB GE101.out⟩
 ·
  replace c5 := Bool.eq_false_iff.mpr c5; subst c5; rw [if_neg (show ¬ (false = true) by decide)] at H; obtain rfl := Option.some.inj H; go_enter Try.func62, Try.ntmps62; go_wp2_with (first | ((with_reducible refine gate_dst (N := 3) rfl ?_); refine be (cs := #[.int .i64 a0_0, .int .i64 a0_1, .slice A0_2 l0_2.length c0_2]) (t := 25) ?_; intro gb101 hg w19 hbox hb; have BK101 := Aside0.mk (hbox); have GW101 := gz w hg (uB0 HB); have GE101 := gz w hg (uB0 HB); replace HB := Aside0.mk (below_step (uB0 HB) hb); clear hb hbox hg; obtain ⟨hcz20_0, hcz20_1, hcz20_2, hfz20_0, hfz20_1, hfz20_2⟩ := bc3 BK101) | ((with_reducible refine gate_callee (f := 21) rfl ?_); refine goesL_ (some 8) rfl rfl Try.func21 (by kernel_rfl) rfl #[.agg #[.int .i64 a0_0, .int .i64 a0_1, .slice A0_2 l0_2.length c0_2]] rfl ul ?_; (with_reducible refine (impl_PlanOk.calls k a0_0 a0_1 _ _ l0_2 false _ ?side1 ?side2 A4.out).mono ?_); (case side1 => exact uC HR0_2 HB); (case side2 => exact HC0_2.out); rintro e w21 ⟨rfl, hb⟩; refine ⟨_, rfl, ?_⟩; replace BK101 := bb BK101 hb; replace HB := Aside0.mk (below_step (uB1 HB GE101.out) hb); (try clear hb))); go_ret; exact ⟨ux, uB1 HB GE101.out⟩

end Go.Proofs.Ytcklifkbodmoaaa.P
namespace Go.Proofs.Ytcklifkbodmoaaa.P
open Go.RowKit Go.Proofs.YtcklifkbodmoaaaV.PrintWords Go.Proofs.YtcklifkbodmoaaaV.PrintLast
set_option linter.unusedVariables false
set_option linter.unusedSimpArgs false

/-! ### spec_l6Goes: function 92 -/
def spec_l6Goes.l0 : Nat → Int → Int → Int → Int → List (S32) → Option (Bool)
 | 0, _, _, _, _, _ => none
 | k + 1, x1, x5, x102000, x102001, x102002 => if x5 ≥ 0 then (if 0 ≤ x5 then (if x5 < (x102002.length : Int) then (if 0 ≤ x1 then (if x1 < (x102002.length : Int) then (if ((rd_T32 x102002 x5).f4) = ((rd_T32 x102002 x1).f4) then (if ((rd_T32 x102002 x5).f1) = ((rd_T32 x102002 x1).f0) then (some (decide (((rd_T32 x102002 x5).f3) ≤ ((rd_T32 x102002 x1).f2)))) else (some false)) else (spec_l6Goes.l0 k x1 (wrap64 (x5 - 1)) x102000 x102001 x102002)) else (none)) else (none)) else (none)) else (none)) else (some true)
def spec_l6Goes.f (k : Nat) (a0_0 : Int) (a0_1 : Int) (l0_2 : List (S32)) (a1 : Int) : Option (Bool) := spec_l6Goes.l0 k a1 (wrap64 (a1 - 1)) a0_0 a0_1 l0_2
set_option maxHeartbeats 8000000 in
set_option maxRecDepth 100000 in
theorem spec_l6Goes.calls (k : Nat) (a0_0 : Int) (a0_1 : Int) (A0_2 : Option Addr) (c0_2 : Nat) (l0_2 : List (S32)) (a1 : Int) (r : Bool) (w : World) (hr0_2 : Kd.C k32 w A0_2 l0_2.length l0_2) (hc0_2 : l0_2.length ≤ c0_2) (h : spec_l6Goes.f k a0_0 a0_1 l0_2 a1 = some r) :
  Calls Try.prog 92 #[.agg #[.int .i64 a0_0, .int .i64 a0_1, .slice A0_2 l0_2.length c0_2], .int .i64 a1] w fun e w' => e = .returned (.bool r) ∧ Below w.heap.size w w' := by
 have hu25 := Try.underlying25
 have HR0_2 := Aside0.mk hr0_2
 have HC0_2 := Aside0.mk hc0_2
 clear hr0_2 hc0_2
 have HB := Aside0.mk (Below.refl w.heap.size w)
 have H : (spec_l6Goes.l0 k a1 (wrap64 (a1 - 1)) a0_0 a0_1 l0_2) = some r := h
 clear h
 have H' := Aside0.mk H
 clear H
 go_enter Try.func92, Try.ntmps92
 go_wp2_with (((with_reducible refine gate_dst (N := 2) rfl ?_); refine be (cs := #[.int .i64 a0_0, .int .i64 a0_1, .slice A0_2 l0_2.length c0_2]) (t := 25) ?_; intro gb101 hg w3 hbox hb; have BK101 := Aside0.mk (hbox); have GW101 := gz w hg (uB0 HB); have GE101 := gz w hg (uB0 HB); replace HB := Aside0.mk (below_step (uB0 HB) hb); clear hb hbox hg))
 go_loopg [5] k (fun kq v5 w' => ∃ (x5_1 : Int), v5 = .int .i64 x5_1 ∧ Aside0 (spec_l6Goes.l0 kq a1 x5_1 a0_0 a0_1 l0_2 = some r) ∧ Aside0 (kq ≤ k) ∧ Aside0 (w'.heap[gb101]? = some (.cells #[.int .i64 a0_0, .int .i64 a0_1, (.slice A0_2 l0_2.length c0_2)] 25 (0, 0))) ∧ Aside0 (Below w.heap.size w w'))
 case atStart => exact ⟨(wrap64 (a1 - 1)), ue, H', ⟨Nat.le_refl _⟩, ⟨ub BK101⟩, ⟨uB1 HB GE101.out⟩⟩
 case round =>
  clear H'
  obtain ⟨x5_1, rfl, HA, HK1, BK101, HB⟩ := hrel
  cases gk with
  | zero => exact absurd HA.out (by simp [spec_l6Goes.l0])
  | succ k1 =>
   have H := HA.out; clear HA; simp only [spec_l6Goes.l0] at H; by_cases c4 : x5_1 ≥ 0
   ·
    rw [if_pos c4] at H; have c4b0 := de c4; clear c4; by_cases c5 : 0 ≤ x5_1
    ·
     rw [if_pos c5] at H; have c5b0 := de c5; clear c5; by_cases c6 : x5_1 < (l0_2.length : Int)
     ·
      rw [if_pos c6] at H; have c6b0 := dl c6; clear c6; by_cases c7 : 0 ≤ a1
      ·
       rw [if_pos c7] at H; have c7b0 := de c7; clear c7; by_cases c8 : a1 < (l0_2.length : Int)
       ·
        rw [if_pos c8] at H; have c8b0 := dl c8; clear c8; by_cases c9 : ((rd_T32 l0_2 x5_1).f4) = ((rd_T32 l0_2 a1).f4)
        ·
         rw [if_pos c9] at H; obtain ⟨c9b0, c9b1⟩ := dq c9; clear c9; by_cases c10 : ((rd_T32 l0_2 x5_1).f1) = ((rd_T32 l0_2 a1).f0)
         ·
          rw [if_pos c10] at H; obtain ⟨c10b0, c10b1⟩ := dq c10; clear c10; obtain rfl := Option.some.inj H; obtain ⟨hcz11_0, hcz11_1, hcz11_2, hfz11_0, hfz11_1, hfz11_2⟩ := bc3 BK101; have p102 : 0 ≤ (x5_1 : Int) := ua; have q102 : x5_1 < (l0_2.length : Int) := ua; obtain ⟨ad102, e102, hx102_0, hx102_1, hx102_2, hx102_3, hx102_4⟩ := at_T32 HR0_2.out x5_1 p102 q102
          cases e102
          replace hx102_0 := uc HB hx102_0; replace hx102_1 := uc HB hx102_1; replace hx102_2 := uc HB hx102_2; replace hx102_3 := uc HB hx102_3; replace hx102_4 := uc HB hx102_4; replace p102 := eq_true p102; replace q102 := eq_true q102; have p103 : 0 ≤ (a1 : Int) := ua; have q103 : a1 < (l0_2.length : Int) := ua; obtain ⟨ad103, e103, hx103_0, hx103_1, hx103_2, hx103_3, hx103_4⟩ := at_T32 HR0_2.out a1 p103 q103; obtain rfl : ad102 = ad103 := (by injection e103)
          replace hx103_0 := uc HB hx103_0; replace hx103_1 := uc HB hx103_1; replace hx103_2 := uc HB hx103_2; replace hx103_3 := uc HB hx103_3; replace hx103_4 := uc HB hx103_4; replace p103 := eq_true p103; replace q103 := eq_true q103; have p104 : 0 ≤ (x5_1 : Int) := ua; have q104 : x5_1 < (l0_2.length : Int) := ua; obtain ⟨ad104, e104, hx104_0, hx104_1, hx104_2, hx104_3, hx104_4⟩ := at_T32 HR0_2.out x5_1 p104 q104; obtain rfl : ad102 = ad104 := (by injection e104)
          replace hx104_0 := uc HB hx104_0; replace hx104_1 := uc HB hx104_1; replace hx104_2 := uc HB hx104_2; replace hx104_3 := uc HB hx104_3; replace hx104_4 := uc HB hx104_4; replace p104 := eq_true p104; replace q104 := eq_true q104; have p105 : 0 ≤ (a1 : Int) := ua; have q105 : a1 < (l0_2.length : Int) := ua; obtain ⟨ad105, e105, hx105_0, hx105_1, hx105_2, hx105_3, hx105_4⟩ := at_T32 HR0_2.out a1 p105 q105; obtain rfl : ad102 = ad105 := (by injection e105)
          replace hx105_0 := uc HB hx105_0; replace hx105_1 := uc HB hx105_1; replace hx105_2 := uc HB hx105_2; replace hx105_3 := uc HB hx105_3; replace hx105_4 := uc HB hx105_4; replace p105 := eq_true p105; replace q105 := eq_true q105; have p106 : 0 ≤ (x5_1 : Int) := ua; have q106 : x5_1 < (l0_2.length : Int) := ua; obtain ⟨ad106, e106, hx106_0, hx106_1, hx106_2, hx106_3, hx106_4⟩ := at_T32 HR0_2.out x5_1 p106 q106; obtain rfl : ad102 = ad106 := (by injection e106)
          replace hx106_0 := uc HB hx106_0; replace hx106_1 := uc HB hx106_1; replace hx106_2 := uc HB hx106_2; replace hx106_3 := uc HB hx106_3; replace hx106_4 := uc HB hx106_4; replace p106 := eq_true p106; replace q106 := eq_true q106; have p107 : 0 ≤ (a1 : Int) := ua; have q107 : a1 < (l0_2.length : Int) := ua; obtain ⟨ad107, e107, hx107_0, hx107_1, hx107_2, hx107_3, hx107_4⟩ := at_T32 HR0_2.out a1 p107 q107; obtain rfl : ad102 = ad107 := (by injection e107)
          replace hx107_0 := uc HB hx107_0; replace hx107_1 := uc HB hx107_1; replace hx107_2 := uc HB hx107_2; replace hx107_3 := uc HB hx107_3; replace hx107_4 := uc HB hx107_4; replace p107 := eq_true p107; replace q107 := eq_true q107; go_wp2
          repeat (go_quiet (fail); try go_wp2)
          go_ret; exact ⟨ux, uB1 HB GE101.out⟩
         ·
          rw [if_neg c10] at H; obtain ⟨c10b0, c10b1⟩ := dQ c10; obtain rfl := Option.some.inj H; obtain ⟨hcz12_0, hcz12_1, hcz12_2, hfz12_0, hfz12_1, hfz12_2⟩ := bc3 BK101; have p102 : 0 ≤ (x5_1 : Int) := ua; have q102 : x5_1 < (l0_2.length : Int) := ua; obtain ⟨ad102, e102, hx102_0, hx102_1, hx102_2, hx102_3, hx102_4⟩ := at_T32 HR0_2.out x5_1 p102 q102
          cases e102
          replace hx102_0 := uc HB hx102_0; replace hx102_1 := uc HB hx102_1; replace hx102_2 := uc HB hx102_2; replace hx102_3 := uc HB hx102_3; replace hx102_4 := uc HB hx102_4; replace p102 := eq_true p102; replace q102 := eq_true q102; have p103 : 0 ≤ (a1 : Int) := ua; have q103 : a1 < (l0_2.length : Int) := ua; obtain ⟨ad103, e103, hx103_0, hx103_1, hx103_2, hx103_3, hx103_4⟩ := at_T32 HR0_2.out a1 p103 q103; obtain rfl : ad102 = ad103 := (by injection e103)
          replace hx103_0 := uc HB hx103_0; replace hx103_1 := uc HB hx103_1; replace hx103_2 := uc HB hx103_2; replace hx103_3 := uc HB hx103_3; replace hx103_4 := uc HB hx103_4; replace p103 := eq_true p103; replace q103 := eq_true q103; have p104 : 0 ≤ (x5_1 : Int) := ua; have q104 : x5_1 < (l0_2.length : Int) := ua; obtain ⟨ad104, e104, hx104_0, hx104_1, hx104_2, hx104_3, hx104_4⟩ := at_T32 HR0_2.out x5_1 p104 q104; obtain rfl : ad102 = ad104 := (by injection e104)
          replace hx104_0 := uc HB hx104_0; replace hx104_1 := uc HB hx104_1; replace hx104_2 := uc HB hx104_2; replace hx104_3 := uc HB hx104_3; replace hx104_4 := uc HB hx104_4; replace p104 := eq_true p104; replace q104 := eq_true q104; have p105 : 0 ≤ (a1 : Int) := ua; have q105 : a1 < (l0_2.length : Int) := ua; obtain ⟨ad105, e105, hx105_0, hx105_1, hx105_2, hx105_3, hx105_4⟩ := at_T32 HR0_2.out a1 p105 q105; obtain rfl : ad102 = ad105 := (by injection e105)
          replace hx105_0 := uc HB hx105_0; replace hx105_1 := uc HB hx105_1; replace hx105_2 := uc HB hx105_2; replace hx105_3 := uc HB hx105_3; replace hx105_4 := uc HB hx105_4; replace p105 := eq_true p105; replace q105 := eq_true q105; go_wp2
          repeat (go_quiet (fail); try go_wp2)
          go_ret; exact ⟨ux, uB1 HB GE101.out⟩
        ·
         rw [if_neg c9] at H; obtain ⟨c9b0, c9b1⟩ := dQ c9; have H' := Aside0.mk H; clear H; obtain ⟨hcz13_0, hcz13_1, hcz13_2, hfz13_0, hfz13_1, hfz13_2⟩ := bc3 BK101; have p102 : 0 ≤ (x5_1 : Int) := ua; have q102 : x5_1 < (l0_2.length : Int) := ua; obtain ⟨ad102, e102, hx102_0, hx102_1, hx102_2, hx102_3, hx102_4⟩ := at_T32 HR0_2.out x5_1 p102 q102
         cases e102
         replace hx102_0 := uc HB hx102_0; replace hx102_1 := uc HB hx102_1; replace hx102_2 := uc HB hx102_2; replace hx102_3 := uc HB hx102_3; replace hx102_4 := uc HB hx102_4; replace p102 := eq_true p102; replace q102 := eq_true q102; have p103 : 0 ≤ (a1 : Int) := ua; have q103 : a1 < (l0_2.length : Int) := ua; obtain ⟨ad103, e103, hx103_0, hx103_1, hx103_2, hx103_3, hx103_4⟩ := at_T32 HR0_2.out a1 p103 q103; obtain rfl : ad102 = ad103 := (by injection e103)
         replace hx103_0 := uc HB hx103_0; replace hx103_1 := uc HB hx103_1; replace hx103_2 := uc HB hx103_2; replace hx103_3 := uc HB hx103_3; replace hx103_4 := uc HB hx103_4; replace p103 := eq_true p103; replace q103 := eq_true q103; go_wp2
         repeat (go_quiet (fail); try go_wp2)
         go_roundg k1
         case measure => have := HK1.out; omega
         case rel => exact ⟨(wrap64 (x5_1 - 1)), ue, H', ⟨by have := HK1.out; omega⟩, ⟨ub BK101⟩, ⟨uB1 HB GE101.out⟩⟩
       ·
        rw [if_neg c8] at H; exact absurd H (by simp)
      ·
       rw [if_neg c7] at H; exact absurd H (by simp)
     ·
      rw [if_neg c6] at H; exact absurd H (by simp)
    ·
     rw [if_neg c5] at H; exact absurd H (by simp)
   ·
    rw [if_neg c4] at H; have c4b0 := DE c4; clear c4; obtain rfl := Option.some.inj H; go_wp2
    go_ret; exact ⟨ux, uB1 HB GE101.out⟩

end Go.Proofs.Ytcklifkbodmoaaa.P
