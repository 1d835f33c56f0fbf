-- written for this claim by a program (wip/gen/myprint.py over the print tool). Not trusted: Lean checks it.
import Derived.Test.YtcklifkbodmoaaaPx0
import Derived.Test.YtcklifkbodmoaaaHUp
namespace Go.Proofs.Ytcklifkbodmoaaa.P
open Go.RowKit Go.Proofs.YtcklifkbodmoaaaV.PrintWords Go.Proofs.YtcklifkbodmoaaaV.PrintLast
set_option linter.unusedVariables false
set_option linter.unusedSimpArgs false

/-! ### laws_heldRoundS: function 42 -/
def laws_heldRoundS.l0 : Nat → List (S43) → Int → Int → Option (Int)
 | 0, _, _, _ => none
 | k + 1, x0, x1, x5 => if x5 < (x0.length : Int) then (if 0 ≤ x5 then (if ((rd_T43 x0 x5).f0) = x1 then (if ((rd_T43 x0 x5).f1) = (wrap64 (x1 + 1)) then (laws_heldRoundS.l0 k x0 (wrap64 ((wrap64 (x1 + 1)) + 1)) (wrap64 (x5 + 1))) else (some (-1))) else (some (-1))) else (none)) else (some x1)
def laws_heldRoundS.f (k : Nat) (l0 : List (S43)) (a1 : Int) : Option (Int) := laws_heldRoundS.l0 k l0 a1 0
set_option maxHeartbeats 8000000 in
set_option maxRecDepth 100000 in
theorem laws_heldRoundS.calls (k : Nat) (A0 : Option Addr) (c0 : Nat) (l0 : List (S43)) (a1 : Int) (r : Int) (w : World) (hr0 : Kd.C k43 w A0 l0.length l0) (hc0 : l0.length ≤ c0) (h : laws_heldRoundS.f k l0 a1 = some r) :
  Calls Try.prog 42 #[.slice A0 l0.length c0, .int .i64 a1] w fun e w' => e = .returned (.int .i64 r) ∧ Drawn0 w w' := by
 have HR0 := Aside0.mk hr0
 have HC0 := Aside0.mk hc0
 clear hr0 hc0
 have H : (laws_heldRoundS.l0 k l0 a1 0) = some r := h
 clear h
 have H' := Aside0.mk H
 clear H
 go_enter Try.func42, Try.ntmps42
 go_wp2
 go_loopg [1, 5] k (fun kq v1 v5 w' => ∃ (x1_1 : Int) (x5_1 : Int), v1 = .int .i64 x1_1 ∧ v5 = .int .i64 x5_1 ∧ Aside0 (laws_heldRoundS.l0 kq l0 x1_1 x5_1 = some r) ∧ Aside0 (kq ≤ k) ∧ Drawn0 w w')
 case atStart => exact ⟨(a1), (0), ue, ue, H', ⟨Nat.le_refl _⟩, by repeat (exact Drawn0.refl _)⟩
 case round =>
  clear H'
  obtain ⟨x1_1, x5_1, rfl, rfl, HA, HK1, ⟨m1, rfl⟩⟩ := hrel
  cases gk with
  | zero => exact absurd HA.out (by simp [laws_heldRoundS.l0])
  | succ k1 =>
   have H := HA.out; clear HA; simp only [laws_heldRoundS.l0] at H; by_cases c3 : x5_1 < (l0.length : Int)
   ·
    rw [if_pos c3] at H; have c3b0 := dl c3; clear c3; by_cases c4 : 0 ≤ x5_1
    ·
     rw [if_pos c4] at H; have c4b0 := de c4; clear c4; by_cases c5 : ((rd_T43 l0 x5_1).f0) = x1_1
     ·
      rw [if_pos c5] at H; obtain ⟨c5b0, c5b1⟩ := dq c5; clear c5; by_cases c6 : ((rd_T43 l0 x5_1).f1) = (wrap64 (x1_1 + 1))
      ·
       rw [if_pos c6] at H; obtain ⟨c6b0, c6b1⟩ := dq c6; clear c6; have H' := Aside0.mk H; clear H; have p101 : 0 ≤ (x5_1 : Int) := ua; have q101 : x5_1 < (l0.length : Int) := ua; obtain ⟨ad101, e101, hx101_0, hx101_1⟩ := at_T43 HR0.out x5_1 p101 q101
       cases e101
       replace p101 := eq_true p101; replace q101 := eq_true q101; have p102 : 0 ≤ (x5_1 : Int) := ua; have q102 : x5_1 < (l0.length : Int) := ua; obtain ⟨ad102, e102, hx102_0, hx102_1⟩ := at_T43 HR0.out x5_1 p102 q102; obtain rfl : ad101 = ad102 := (by injection e102)
       replace p102 := eq_true p102; replace q102 := eq_true q102; go_wp2; go_roundg k1
       case measure => have := HK1.out; omega
       case rel => exact ⟨(wrap64 ((wrap64 (x1_1 + 1)) + 1)), (wrap64 (x5_1 + 1)), ue, ue, H', ⟨by have := HK1.out; omega⟩, by repeat (first | exact Drawn0.refl _ | apply Drawn0.step)⟩
      ·
       rw [if_neg c6] at H; obtain ⟨c6b0, c6b1⟩ := dQ c6; obtain rfl := Option.some.inj H; have p101 : 0 ≤ (x5_1 : Int) := ua; have q101 : x5_1 < (l0.length : Int) := ua; obtain ⟨ad101, e101, hx101_0, hx101_1⟩ := at_T43 HR0.out x5_1 p101 q101
       cases e101
       replace p101 := eq_true p101; replace q101 := eq_true q101; have p102 : 0 ≤ (x5_1 : Int) := ua; have q102 : x5_1 < (l0.length : Int) := ua; obtain ⟨ad102, e102, hx102_0, hx102_1⟩ := at_T43 HR0.out x5_1 p102 q102; obtain rfl : ad101 = ad102 := (by injection e102)
       replace p102 := eq_true p102; replace q102 := eq_true q102; go_wp2; go_ret; exact ⟨by first | rfl | (simp; done) | (simp [*]; done), by repeat (first | exact Drawn0.refl _ | apply Drawn0.step)⟩
     ·
      rw [if_neg c5] at H; obtain ⟨c5b0, c5b1⟩ := dQ c5; obtain rfl := Option.some.inj H; have p101 : 0 ≤ (x5_1 : Int) := ua; have q101 : x5_1 < (l0.length : Int) := ua; obtain ⟨ad101, e101, hx101_0, hx101_1⟩ := at_T43 HR0.out x5_1 p101 q101
      cases e101
      replace p101 := eq_true p101; replace q101 := eq_true q101; go_wp2; go_ret; exact ⟨by first | rfl | (simp; done) | (simp [*]; done), by repeat (first | exact Drawn0.refl _ | apply Drawn0.step)⟩
    ·
     rw [if_neg c4] at H; exact absurd H (by simp)
   ·
    rw [if_neg c3] at H; have c3b0 := DL c3; clear c3; obtain rfl := Option.some.inj H; go_wp2; go_ret; exact ⟨by first | rfl | (simp; done) | (simp [*]; done), by repeat (first | exact Drawn0.refl _ | apply Drawn0.step)⟩

end Go.Proofs.Ytcklifkbodmoaaa.P
