-- written for this claim by a program (wip/gen/myprint.py over the print tool). Not trusted: Lean checks it.
import Derived.Test.YtdlaaccnaokdnaaPx0
import Derived.Test.YtdlaaccnaokdnaaHUp
namespace Go.Proofs.Ytdlaaccnaokdnaa.P
open Go.RowKit Go.Proofs.YtdlaaccnaokdnaaV.PrintWords Go.Proofs.YtdlaaccnaokdnaaV.PrintLast
set_option linter.unusedVariables false
set_option linter.unusedSimpArgs false

/-! ### slices_Equal_int_int: function 120 -/
def slices_Equal_int_int.l0 : Nat → List Int → List Int → Int → Int → Option (Bool)
 | 0, _, _, _, _ => none
 | k + 1, x0, x1, x12, x13 => if x13 < x12 then (if 0 ≤ x13 then (if x13 < (x0.length : Int) then (if x13 < (x1.length : Int) then (if (rd x0 x13) = (rd x1 x13) then (slices_Equal_int_int.l0 k x0 x1 x12 (wrap64 (x13 + 1))) else (some false)) else (none)) else (none)) else (none)) else (some true)
def slices_Equal_int_int.f (k : Nat) (l0 : List Int) (l1 : List Int) : Option (Bool) := if (l0.length : Int) = (l1.length : Int) then (slices_Equal_int_int.l0 k l0 l1 (l0.length : Int) 0) else (some false)
set_option maxHeartbeats 8000000 in
set_option maxRecDepth 100000 in
theorem slices_Equal_int_int.calls (k : Nat) (A0 : Option Addr) (c0 : Nat) (l0 : List Int) (A1 : Option Addr) (c1 : Nat) (l1 : List Int) (r : Bool) (w : World) (hr0 : Kd.C (Kd.int .i64) w A0 l0.length l0) (hc0 : l0.length ≤ c0) (hr1 : Kd.C (Kd.int .i64) w A1 l1.length l1) (hc1 : l1.length ≤ c1) (h : slices_Equal_int_int.f k l0 l1 = some r) :
  Calls Try.prog 120 #[.slice A0 l0.length c0, .slice A1 l1.length c1] w fun e w' => e = .returned (.bool r) ∧ Drawn0 w w' := by
 have HR0 := Aside0.mk hr0
 have HC0 := Aside0.mk hc0
 clear hr0 hc0
 have HR1 := Aside0.mk hr1
 have HC1 := Aside0.mk hc1
 clear hr1 hc1
 have H : (if (l0.length : Int) = (l1.length : Int) then (slices_Equal_int_int.l0 k l0 l1 (l0.length : Int) 0) else (some false)) = some r := h
 clear h
 by_cases c3 : (l0.length : Int) = (l1.length : Int)
 ·
  rw [if_pos c3] at H; obtain ⟨j9, ja⟩ := dq c3; have jb : (l0.length == l1.length) = true := by first | simpa using c3 | (simp at c3 ⊢; omega)
  clear c3; have H' := Aside0.mk H; clear H; go_enter Try.func120, Try.ntmps120; go_wp2
  repeat (go_quiet (fail); try go_wp2)
  go_loopg [13] k (fun kq v13 w' => ∃ (j0 : Int), v13 = .int .i64 j0 ∧ Aside0 (slices_Equal_int_int.l0 kq l0 l1 (l0.length : Int) j0 = some r) ∧ Aside0 (kq ≤ k) ∧ Drawn0 w w')
  case atStart => exact ⟨(0), ue, H', ⟨Nat.le_refl _⟩, by repeat (first | exact Drawn0.refl _ | apply Drawn0.step)⟩
  case round =>
   clear H'; try clear c1
   (try clear p2); (try clear c3); (try clear j9); (try clear ja); (try clear jb)
   obtain ⟨j0, rfl, HA, HK1, ⟨m1, rfl⟩⟩ := hrel
   cases gk with
   | zero => exact absurd HA.out (by simp [slices_Equal_int_int.l0])
   | succ k1 =>
    have H := HA.out; clear HA; simp only [slices_Equal_int_int.l0] at H; by_cases c4 : j0 < (l0.length : Int)
    ·
     rw [if_pos c4] at H; have je := dl c4; clear c4; by_cases c5 : 0 ≤ j0
     ·
      rw [if_pos c5] at H; have jh := de c5; clear c5; by_cases c6 : j0 < (l0.length : Int)
      ·
       rw [if_pos c6] at H; have ji := dl c6; clear c6; by_cases c7 : j0 < (l1.length : Int)
       ·
        rw [if_pos c7] at H; have jj := dl c7; clear c7; by_cases c8 : (rd l0 j0) = (rd l1 j0)
        ·
         rw [if_pos c8] at H; obtain ⟨jf, jg⟩ := dq c8; clear c8; have H' := Aside0.mk H; clear H; have j1 : 0 ≤ (j0 : Int) := ua; have j2 : j0 < (l0.length : Int) := ua; obtain ⟨jc, j7, j5⟩ := Kd.at_int HR0.out j0 j1 j2
         cases j7
         replace j1 := eq_true j1; replace j2 := eq_true j2; have j3 : 0 ≤ (j0 : Int) := ua; have j4 : j0 < (l1.length : Int) := ua; obtain ⟨jd, j8, j6⟩ := Kd.at_int HR1.out j0 j3 j4
         cases j8
         replace j3 := eq_true j3; replace j4 := eq_true j4; go_wp2
         repeat (go_quiet (fail); try go_wp2)
         go_roundg k1
         case measure => have := HK1.out; omega
         case rel => exact ⟨(wrap64 (j0 + 1)), ue, H', ⟨by have := HK1.out; omega⟩, by repeat (first | exact Drawn0.refl _ | apply Drawn0.step)⟩
        ·
         rw [if_neg c8] at H; obtain ⟨jf, jg⟩ := dQ c8; obtain rfl := Option.some.inj H; have j1 : 0 ≤ (j0 : Int) := ua; have j2 : j0 < (l0.length : Int) := ua; obtain ⟨jc, j7, j5⟩ := Kd.at_int HR0.out j0 j1 j2
         cases j7
         replace j1 := eq_true j1; replace j2 := eq_true j2; have j3 : 0 ≤ (j0 : Int) := ua; have j4 : j0 < (l1.length : Int) := ua; obtain ⟨jd, j8, j6⟩ := Kd.at_int HR1.out j0 j3 j4
         cases j8
         replace j3 := eq_true j3; replace j4 := eq_true j4; go_wp2
         repeat (go_quiet (fail); try go_wp2)
         go_ret; exact ⟨by first | rfl | (simp; done) | (simp [*]; done), by repeat (first | exact Drawn0.refl _ | apply Drawn0.step)⟩
       ·
        rw [if_neg c7] at H; exact absurd H (by simp)
      ·
       rw [if_neg c6] at H; exact absurd H (by simp)
     ·
      rw [if_neg c5] at H; exact absurd H (by simp)
    ·
     rw [if_neg c4] at H; have je := DL c4; clear c4; obtain rfl := Option.some.inj H; go_wp2
     repeat (go_quiet (fail); try go_wp2)
     go_ret; exact ⟨by first | rfl | (simp; done) | (simp [*]; done), by repeat (first | exact Drawn0.refl _ | apply Drawn0.step)⟩
 ·
  rw [if_neg c3] at H; obtain ⟨j9, ja⟩ := dQ c3; have jb : (l0.length == l1.length) = false := by first | simpa using c3 | (simp at c3 ⊢; omega)
  obtain rfl := Option.some.inj H; go_enter Try.func120, Try.ntmps120; go_wp2
  repeat (go_quiet (fail); try go_wp2)
  go_ret; exact ⟨by first | rfl | (simp; done) | (simp [*]; done), by repeat (first | exact Drawn0.refl _ | apply Drawn0.step)⟩

end Go.Proofs.Ytdlaaccnaokdnaa.P
