-- written for this claim by a program (wip/gen/myprint.py over the print tool). Not trusted: Lean checks it.
import Derived.Test.YtdlaaccnaokdnaaPx0
import Derived.Test.YtdlaaccnaokdnaaHUp
import Derived.Test.YtdlaaccnaokdnaaGBase
namespace Go.Proofs.Ytdlaaccnaokdnaa.P
open Go.RowKit Go.Proofs.YtdlaaccnaokdnaaV.PrintWords Go.Proofs.YtdlaaccnaokdnaaV.PrintLast
set_option linter.unusedVariables false
set_option linter.unusedSimpArgs false

/-! ### spec_l8Order: function 83 -/
mutual
def spec_l8Order.l0 : Nat → List Int → Int → Int → Option (Bool)
 | 0, _, _, _ => none
 | k + 1, x0, x1, x5 => if x5 < (x0.length : Int) then (if 0 ≤ x5 then ((spec_l1In.f (rd x0 x5) 0 (wrap64 (x1 - 1))).bind fun t102 => (if t102 = true then (spec_l8Order.l1 k x0 x1 x5 0) else (some false))) else (none)) else (some ((x0.length : Int) == x1))
def spec_l8Order.l1 : Nat → List Int → Int → Int → Int → Option (Bool)
 | 0, _, _, _, _ => none
 | k + 1, x0, x1, x5, x6 => if x6 < x5 then (if 0 ≤ x6 then (if x6 < (x0.length : Int) then (if 0 ≤ x5 then (if x5 < (x0.length : Int) then (if (rd x0 x6) = (rd x0 x5) then (some false) else (spec_l8Order.l1 k x0 x1 x5 (wrap64 (x6 + 1)))) else (none)) else (none)) else (none)) else (none)) else (spec_l8Order.l0 k x0 x1 (wrap64 (x5 + 1)))
end
def spec_l8Order.f (k : Nat) (l0 : List Int) (a1 : Int) : Option (Bool) := spec_l8Order.l0 k l0 a1 0
set_option maxHeartbeats 8000000 in
set_option maxRecDepth 100000 in
theorem spec_l8Order.calls (k : Nat) (A0 : Option Addr) (c0 : Nat) (l0 : List Int) (a1 : Int) (r : Bool) (w : World) (hr0 : Kd.C (Kd.int .i64) w A0 l0.length l0) (hc0 : l0.length ≤ c0) (h : spec_l8Order.f k l0 a1 = some r) :
  Calls Try.prog 83 #[.slice A0 l0.length c0, .int .i64 a1] w fun e w' => e = .returned (.bool r) ∧ Drawn0 w w' := by
 have HR0 := Aside0.mk hr0
 have HC0 := Aside0.mk hc0
 clear hr0 hc0
 have H : (spec_l8Order.l0 k l0 a1 0) = some r := h
 clear h
 have H' := Aside0.mk H
 clear H
 go_enter Try.func83, Try.ntmps83
 go_wp2
 go_loopg [5] k (fun kq v5 w' => ∃ (j0 : Int), v5 = .int .i64 j0 ∧ Aside0 (spec_l8Order.l0 kq l0 a1 j0 = some r) ∧ Aside0 (kq ≤ k) ∧ Drawn0 w w')
 case atStart => exact ⟨(0), ue, H', ⟨Nat.le_refl _⟩, by repeat (exact Drawn0.refl _)⟩
 case round =>
  clear H'
  obtain ⟨j0, rfl, HA, HK1, ⟨m1, rfl⟩⟩ := hrel
  cases gk with
  | zero => exact absurd HA.out (by simp [spec_l8Order.l0])
  | succ k1 =>
   have H := HA.out; clear HA; simp only [spec_l8Order.l0] at H; by_cases c3 : j0 < (l0.length : Int)
   ·
    rw [if_pos c3] at H; have jh := dl c3; clear c3; by_cases c4 : 0 ≤ j0
    ·
     rw [if_pos c4] at H; have jl := de c4; clear c4; replace H := Option.bind_eq_some_iff.mp H; obtain ⟨ji, A50, H⟩ := H; replace H : (if ji = true then (spec_l8Order.l1 k1 l0 a1 j0 0) else (some false)) = some r := H; have A5 := Aside0.mk A50; clear A50; by_cases c6 : ji = true
     ·
      subst c6; rw [if_pos rfl] at H; have H' := Aside0.mk H; clear H; have j2 : 0 ≤ (j0 : Int) := ua; have j3 : j0 < (l0.length : Int) := ua; obtain ⟨j4, je, j9⟩ := Kd.at_int HR0.out j0 j2 j3
      cases je
      replace j2 := eq_true j2; replace j3 := eq_true j3; go_wp2_with ((go_at_call 52; (with_reducible refine (spec_l1In.calls (rd l0 j0) 0 (wrap64 (a1 - 1)) true _ A5.out).mono ?_); rintro e w' ⟨rfl, ⟨nd, rfl⟩⟩))
      go_loopg [6] k1 (fun kq v6 w' => ∃ (j1 : Int), v6 = .int .i64 j1 ∧ Aside0 (spec_l8Order.l1 kq l0 a1 j0 j1 = some r) ∧ Aside0 (kq ≤ k1) ∧ Drawn0 w w')
      case atStart => exact ⟨(0), ue, H', ⟨Nat.le_refl _⟩, by repeat (first | exact Drawn0.refl _ | apply Drawn0.step)⟩
      case round =>
       clear H'
       clear jh jl j9 j2 j3
       obtain ⟨j1, rfl, HA, HK2, ⟨m2, rfl⟩⟩ := hrel
       cases gk with
       | zero => exact absurd HA.out (by simp [spec_l8Order.l1])
       | succ k2 =>
        have H := HA.out; clear HA; simp only [spec_l8Order.l1] at H; by_cases c7 : j1 < j0
        ·
         rw [if_pos c7] at H; have jm := dl c7; clear c7; by_cases c8 : 0 ≤ j1
         ·
          rw [if_pos c8] at H; have jp := de c8; clear c8; by_cases c9 : j1 < (l0.length : Int)
          ·
           rw [if_pos c9] at H; have jq := dl c9; clear c9; by_cases c10 : 0 ≤ j0
           ·
            rw [if_pos c10] at H; have jn := de c10; clear c10; by_cases c11 : j0 < (l0.length : Int)
            ·
             rw [if_pos c11] at H; have jo := dl c11; clear c11; by_cases c12 : (rd l0 j1) = (rd l0 j0)
             ·
              rw [if_pos c12] at H; obtain ⟨jj, jk⟩ := dq c12; clear c12; obtain rfl := Option.some.inj H; have j5 : 0 ≤ (j1 : Int) := ua; have j6 : j1 < (l0.length : Int) := ua; obtain ⟨ja, jf, jc⟩ := Kd.at_int HR0.out j1 j5 j6; obtain rfl : j4 = ja := (by injection jf)
              replace j5 := eq_true j5; replace j6 := eq_true j6; have j7 : 0 ≤ (j0 : Int) := ua; have j8 : j0 < (l0.length : Int) := ua; obtain ⟨jb, jg, jd⟩ := Kd.at_int HR0.out j0 j7 j8; obtain rfl : j4 = jb := (by injection jg)
              replace j7 := eq_true j7; replace j8 := eq_true j8; go_wp2
              repeat (go_quiet (fail); try go_wp2)
              go_ret; exact ⟨by first | rfl | (simp; done) | (simp [*]; done), by repeat (first | exact Drawn0.refl _ | apply Drawn0.step)⟩
             ·
              rw [if_neg c12] at H; obtain ⟨jj, jk⟩ := dQ c12; have H' := Aside0.mk H; clear H; have j5 : 0 ≤ (j1 : Int) := ua; have j6 : j1 < (l0.length : Int) := ua; obtain ⟨ja, jf, jc⟩ := Kd.at_int HR0.out j1 j5 j6; obtain rfl : j4 = ja := (by injection jf)
              replace j5 := eq_true j5; replace j6 := eq_true j6; have j7 : 0 ≤ (j0 : Int) := ua; have j8 : j0 < (l0.length : Int) := ua; obtain ⟨jb, jg, jd⟩ := Kd.at_int HR0.out j0 j7 j8; obtain rfl : j4 = jb := (by injection jg)
              replace j7 := eq_true j7; replace j8 := eq_true j8; go_wp2
              repeat (go_quiet (fail); try go_wp2)
              go_roundg k2
              case measure => have := HK1.out; have := HK2.out; omega
              case rel => exact ⟨(wrap64 (j1 + 1)), ue, H', ⟨by have := HK1.out; have := HK2.out; omega⟩, by repeat (first | exact Drawn0.refl _ | apply Drawn0.step)⟩
            ·
             rw [if_neg c11] at H; exact absurd H (by simp)
           ·
            rw [if_neg c10] at H; exact absurd H (by simp)
          ·
           rw [if_neg c9] at H; exact absurd H (by simp)
         ·
          rw [if_neg c8] at H; exact absurd H (by simp)
        ·
         rw [if_neg c7] at H; have jm := DL c7; clear c7; have H' := Aside0.mk H; clear H; go_wp2
         go_roundg k2
         case measure => have := HK1.out; have := HK2.out; omega
         case rel => exact ⟨(wrap64 (j0 + 1)), ue, H', ⟨by have := HK1.out; have := HK2.out; omega⟩, by repeat (first | exact Drawn0.refl _ | apply Drawn0.step)⟩
     ·
      replace c6 := Bool.eq_false_iff.mpr c6; subst c6; rw [if_neg (show ¬ (false = true) by decide)] at H; obtain rfl := Option.some.inj H; have j2 : 0 ≤ (j0 : Int) := ua; have j3 : j0 < (l0.length : Int) := ua; obtain ⟨j4, je, j9⟩ := Kd.at_int HR0.out j0 j2 j3
      cases je
      replace j2 := eq_true j2; replace j3 := eq_true j3; go_wp2_with ((go_at_call 52; (with_reducible refine (spec_l1In.calls (rd l0 j0) 0 (wrap64 (a1 - 1)) false _ A5.out).mono ?_); rintro e w' ⟨rfl, ⟨nd, rfl⟩⟩))
      go_ret; exact ⟨by first | rfl | (simp; done) | (simp [*]; done), by repeat (first | exact Drawn0.refl _ | apply Drawn0.step)⟩
    ·
     rw [if_neg c4] at H; exact absurd H (by simp)
   ·
    rw [if_neg c3] at H; have jh := DL c3; clear c3; obtain rfl := Option.some.inj H; go_wp2
    go_ret; exact ⟨by first | rfl | (simp; done) | (simp [*]; done), by repeat (first | exact Drawn0.refl _ | apply Drawn0.step)⟩

end Go.Proofs.Ytdlaaccnaokdnaa.P
