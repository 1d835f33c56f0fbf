-- written for this claim by a program (wip/gen/myprint.py over the print tool). Not trusted: Lean checks it.
import Derived.Test.YtdlaaccnaokdnaaPx0
import Derived.Test.YtdlaaccnaokdnaaHUp
import Derived.Test.YtdlaaccnaokdnaaGBase
namespace Go.Proofs.Ytdlaaccnaokdnaa.P
open Go.RowKit Go.Proofs.YtdlaaccnaokdnaaV.PrintWords Go.Proofs.YtdlaaccnaokdnaaV.PrintLast
set_option linter.unusedVariables false
set_option linter.unusedSimpArgs false

/-! ### spec_l9Ok: function 67 -/
def spec_l9Ok.l0 : Nat → List Int → Int → Int → List (S61) → Option (Bool)
 | 0, _, _, _, _ => none
 | k + 1, x1, x5, x102000, x102001 => if x5 < (x1.length : Int) then (if 0 ≤ x5 then ((spec_l1In.f (rd x1 x5) 0 99).bind fun t103 => (if t103 = true then (spec_l9Ok.l0 k x1 (wrap64 (x5 + 1)) x102000 x102001) else (some false))) else (none)) else (some ((x1.length : Int) == (x102001.length : Int)))
def spec_l9Ok.f (k : Nat) (a0_0 : Int) (l0_1 : List (S61)) (l1 : List Int) : Option (Bool) := spec_l9Ok.l0 k l1 0 a0_0 l0_1
set_option maxHeartbeats 8000000 in
set_option maxRecDepth 100000 in
theorem spec_l9Ok.calls (k : Nat) (a0_0 : Int) (A0_1 : Option Addr) (c0_1 : Nat) (l0_1 : List (S61)) (A1 : Option Addr) (c1 : Nat) (l1 : List Int) (r : Bool) (w : World) (hr0_1 : Kd.C k61 w A0_1 l0_1.length l0_1) (hc0_1 : l0_1.length ≤ c0_1) (hr1 : Kd.C (Kd.int .i64) w A1 l1.length l1) (hc1 : l1.length ≤ c1) (h : spec_l9Ok.f k a0_0 l0_1 l1 = some r) :
  Calls Try.prog 67 #[.agg #[.int .i64 a0_0, .slice A0_1 l0_1.length c0_1], .slice A1 l1.length c1] w fun e w' => e = .returned (.bool r) ∧ Below w.heap.size w w' := by
 have hu35 := Try.underlying35
 have jf := Aside0.mk hr0_1
 have jg := Aside0.mk hc0_1
 clear hr0_1 hc0_1
 have HR1 := Aside0.mk hr1
 have HC1 := Aside0.mk hc1
 clear hr1 hc1
 have HB := Aside0.mk (Below.refl w.heap.size w)
 have H : (spec_l9Ok.l0 k l1 0 a0_0 l0_1) = some r := h
 clear h
 have H' := Aside0.mk H
 clear H
 go_enter Try.func67, Try.ntmps67
 go_wp2_with (first | ((with_reducible refine gate_dst (N := 2) rfl ?_); refine be (cs := #[.int .i64 a0_0, .slice A0_1 l0_1.length c0_1]) (t := 35) ?_; intro j7 hg w3 hbox hb; have j4 := Aside0.mk (hbox); have jh := gz w hg (uB0 HB); have j5 := gz w hg (uB0 HB); replace HB := Aside0.mk (below_step (uB0 HB) hb); clear hb hbox hg))
 go_loopg [5] k (fun kq v5 w' => ∃ (j0 : Int), v5 = .int .i64 j0 ∧ Aside0 (spec_l9Ok.l0 kq l1 j0 a0_0 l0_1 = some r) ∧ Aside0 (kq ≤ k) ∧ Aside0 (w'.heap[j7]? = some (.cells #[.int .i64 a0_0, (.slice A0_1 l0_1.length c0_1)] 35 (0, 0))) ∧ Aside0 (Below w.heap.size w w'))
 case atStart => exact ⟨(0), ue, H', ⟨Nat.le_refl _⟩, ⟨ub j4⟩, ⟨uB1 HB j5.out⟩⟩
 case round =>
  clear H'; try clear c1
  try clear p2
  obtain ⟨j0, rfl, HA, HK1, j4, HB⟩ := hrel
  cases gk with
  | zero => exact absurd HA.out (by simp [spec_l9Ok.l0])
  | succ k1 =>
   have H := HA.out; clear HA; simp only [spec_l9Ok.l0] at H; by_cases c4 : j0 < (l1.length : Int)
   ·
    rw [if_pos c4] at H; have ja := dl c4; clear c4; by_cases c5 : 0 ≤ j0
    ·
     rw [if_pos c5] at H; have ji := de c5; clear c5; replace H := Option.bind_eq_some_iff.mp H; obtain ⟨j8, A60, H⟩ := H; replace H : (if j8 = true then (spec_l9Ok.l0 k1 l1 (wrap64 (j0 + 1)) a0_0 l0_1) else (some false)) = some r := H; have A6 := Aside0.mk A60; clear A60; by_cases c7 : j8 = true
     ·
      subst c7; rw [if_pos rfl] at H; have H' := Aside0.mk H; clear H; have j2 : 0 ≤ (j0 : Int) := ua; have j3 : j0 < (l1.length : Int) := ua; obtain ⟨j9, j6, j1⟩ := Kd.at_int HR1.out j0 j2 j3
      cases j6
      replace j1 := uc HB j1; replace j2 := eq_true j2; replace j3 := eq_true j3; go_wp2_with (first | ((with_reducible refine gate_callee (f := 52) rfl ?_); refine goesL_ (some 16) rfl rfl Try.func52 (by kernel_rfl) rfl #[.int .i64 (rd l1 j0), .int .i64 0, .int .i64 99] rfl ul ?_; (with_reducible refine (spec_l1In.calls (rd l1 j0) 0 99 true _ A6.out).mono ?_); rintro e w' ⟨rfl, ⟨nd, rfl⟩⟩; refine ⟨_, rfl, ?_⟩)); go_roundg k1
      case measure => have := HK1.out; omega
      case rel => exact ⟨(wrap64 (j0 + 1)), ue, H', ⟨by have := HK1.out; omega⟩, ⟨ub j4⟩, ⟨uB1 HB j5.out⟩⟩
     ·
      replace c7 := Bool.eq_false_iff.mpr c7; subst c7; rw [if_neg (show ¬ (false = true) by decide)] at H; obtain rfl := Option.some.inj H; have j2 : 0 ≤ (j0 : Int) := ua; have j3 : j0 < (l1.length : Int) := ua; obtain ⟨j9, j6, j1⟩ := Kd.at_int HR1.out j0 j2 j3
      cases j6
      replace j1 := uc HB j1; replace j2 := eq_true j2; replace j3 := eq_true j3; go_wp2_with (first | ((with_reducible refine gate_callee (f := 52) rfl ?_); refine goesL_ (some 16) rfl rfl Try.func52 (by kernel_rfl) rfl #[.int .i64 (rd l1 j0), .int .i64 0, .int .i64 99] rfl ul ?_; (with_reducible refine (spec_l1In.calls (rd l1 j0) 0 99 false _ A6.out).mono ?_); rintro e w' ⟨rfl, ⟨nd, rfl⟩⟩; refine ⟨_, rfl, ?_⟩)); go_ret; exact ⟨ux, uB1 HB j5.out⟩
    ·
     rw [if_neg c5] at H; exact absurd H (by simp)
   ·
    rw [if_neg c4] at H; have ja := DL c4; clear c4; obtain rfl := Option.some.inj H; obtain ⟨jb, jc, jd, je⟩ := bc2 j4; go_wp2; go_ret; exact ⟨ux, uB1 HB j5.out⟩

end Go.Proofs.Ytdlaaccnaokdnaa.P
