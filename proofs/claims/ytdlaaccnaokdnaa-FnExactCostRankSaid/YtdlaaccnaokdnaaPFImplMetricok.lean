-- written for this claim by a program (wip/gen/myprint.py over the print tool). Not trusted: Lean checks it.
import Derived.Test.YtdlaaccnaokdnaaPx0
import Derived.Test.YtdlaaccnaokdnaaHUp
import Derived.Test.YtdlaaccnaokdnaaHInC
import Derived.Test.YtdlaaccnaokdnaaHNet
namespace Go.Proofs.Ytdlaaccnaokdnaa.P
open Go.RowKit Go.Proofs.YtdlaaccnaokdnaaV.PrintWords Go.Proofs.YtdlaaccnaokdnaaV.PrintLast
set_option linter.unusedVariables false
set_option linter.unusedSimpArgs false

/-! ### impl_metricOk: function 70 -/
def impl_metricOk.f (a0_0 : Int) (l0_1 : List (S61)) (l1 : List Int) : Option (Bool) := (impl_NetOk.f a0_0 l0_1).bind fun t102 => (if t102 = true then (if (l1.length : Int) = (l0_1.length : Int) then ((contains_metricOk1.f l1).bind fun t103 => (some (!t103))) else (some false)) else (some false))
set_option maxHeartbeats 8000000 in
set_option maxRecDepth 100000 in
theorem impl_metricOk.calls (a0_0 : Int) (A0_1 : Option Addr) (c0_1 : Nat) (l0_1 : List (S61)) (A1 : Option Addr) (c1 : Nat) (l1 : List Int) (r : Bool) (w : World) (hr0_1 : Kd.C k61 w A0_1 l0_1.length l0_1) (hc0_1 : l0_1.length ≤ c0_1) (hr1 : Kd.C (Kd.int .i64) w A1 l1.length l1) (hc1 : l1.length ≤ c1) (h : impl_metricOk.f a0_0 l0_1 l1 = some r) :
  Calls Try.prog 70 #[.agg #[.int .i64 a0_0, .slice A0_1 l0_1.length c0_1], .slice A1 l1.length c1] w fun e w' => e = .returned (.bool r) ∧ Below w.heap.size w w' := by
 have hu35 := Try.underlying35
 have j3 := Aside0.mk hr0_1
 have j4 := Aside0.mk hc0_1
 clear hr0_1 hc0_1
 have HR1 := Aside0.mk hr1
 have HC1 := Aside0.mk hc1
 clear hr1 hc1
 have HB := Aside0.mk (Below.refl w.heap.size w)
 have H : ((impl_NetOk.f a0_0 l0_1).bind fun j5 => (if j5 = true then (if (l1.length : Int) = (l0_1.length : Int) then ((contains_metricOk1.f l1).bind fun j2 => (some (!j2))) else (some false)) else (some false))) = some r := h
 clear h
 replace H := Option.bind_eq_some_iff.mp H
 obtain ⟨j5, A30, H⟩ := H
 replace H : (if j5 = true then (if (l1.length : Int) = (l0_1.length : Int) then ((contains_metricOk1.f l1).bind fun j2 => (some (!j2))) else (some false)) else (some false)) = some r := H
 have A3 := Aside0.mk A30
 clear A30
 by_cases c4 : j5 = true
 ·
  subst c4; rw [if_pos rfl] at H; by_cases c5 : (l1.length : Int) = (l0_1.length : Int)
  ·
   rw [if_pos c5] at H; obtain ⟨jo, jp⟩ := dq c5; have jq : (l1.length == l0_1.length) = true := by first | simpa using c5 | (simp at c5 ⊢; omega)
   clear c5; replace H := Option.bind_eq_some_iff.mp H; obtain ⟨j2, A60, H⟩ := H; replace H : (some (!j2)) = some r := H; have A6 := Aside0.mk A60; clear A60; obtain rfl := Option.some.inj H; go_enter Try.func70, Try.ntmps70; go_wp2_with (first | ((with_reducible refine gate_dst (N := 2) rfl ?_); refine be (cs := #[.int .i64 a0_0, .slice A0_1 l0_1.length c0_1]) (t := 35) ?_; intro j6 hg w7 hbox hb; have j0 := Aside0.mk (hbox); have j7 := gz w hg (uB0 HB); have j1 := gz w hg (uB0 HB); replace HB := Aside0.mk (below_step (uB0 HB) hb); clear hb hbox hg; obtain ⟨jr, js, jt, ju⟩ := bc2 j0) | ((with_reducible refine gate_callee (f := 79) rfl ?_); refine goesL_ (some 6) rfl rfl Try.func79 (by kernel_rfl) rfl #[.agg #[.int .i64 a0_0, .slice A0_1 l0_1.length c0_1]] rfl ul ?_; (with_reducible refine (impl_NetOk.calls a0_0 _ _ l0_1 true _ ?side1 ?side2 A3.out).mono ?_); (case side1 => exact uC j3 HB); (case side2 => exact j4.out); rintro e w9 ⟨rfl, hb⟩; refine ⟨_, rfl, ?_⟩; replace j0 := bb j0 hb; replace HB := Aside0.mk (below_step (uB1 HB j1.out) hb); (try clear hb); (try clear hb2); (try clear hk); (try clear hi); obtain ⟨j8, j9, ja, jb⟩ := bc2 j0) | (go_at_call 94; (with_reducible refine (contains_metricOk1.calls _ _ l1 j2 _ ?side1 ?side2 A6.out).mono ?_); (case side1 => exact uC HR1 HB); (case side2 => exact HC1.out); rintro e w11 ⟨rfl, hb⟩; replace j0 := bb j0 hb; replace HB := Aside0.mk (below_step (uB1 HB j1.out) hb); (try clear hb); (try clear hb2); (try clear hk); (try clear hi))); go_ret; exact ⟨ux, uB1 HB j1.out⟩
  ·
   rw [if_neg c5] at H; obtain ⟨jo, jp⟩ := dQ c5; have jq : (l1.length == l0_1.length) = false := by first | simpa using c5 | (simp at c5 ⊢; omega)
   obtain rfl := Option.some.inj H; go_enter Try.func70, Try.ntmps70; go_wp2_with (first | ((with_reducible refine gate_dst (N := 2) rfl ?_); refine be (cs := #[.int .i64 a0_0, .slice A0_1 l0_1.length c0_1]) (t := 35) ?_; intro j6 hg w12 hbox hb; have j0 := Aside0.mk (hbox); have j7 := gz w hg (uB0 HB); have j1 := gz w hg (uB0 HB); replace HB := Aside0.mk (below_step (uB0 HB) hb); clear hb hbox hg; obtain ⟨jc, jd, je, jf⟩ := bc2 j0) | ((with_reducible refine gate_callee (f := 79) rfl ?_); refine goesL_ (some 6) rfl rfl Try.func79 (by kernel_rfl) rfl #[.agg #[.int .i64 a0_0, .slice A0_1 l0_1.length c0_1]] rfl ul ?_; (with_reducible refine (impl_NetOk.calls a0_0 _ _ l0_1 true _ ?side1 ?side2 A3.out).mono ?_); (case side1 => exact uC j3 HB); (case side2 => exact j4.out); rintro e w14 ⟨rfl, hb⟩; refine ⟨_, rfl, ?_⟩; replace j0 := bb j0 hb; replace HB := Aside0.mk (below_step (uB1 HB j1.out) hb); (try clear hb); (try clear hb2); (try clear hk); (try clear hi); obtain ⟨jg, jh, ji, jj⟩ := bc2 j0)); go_ret; exact ⟨ux, uB1 HB j1.out⟩
 ·
  replace c4 := Bool.eq_false_iff.mpr c4; subst c4; rw [if_neg (show ¬ (false = true) by decide)] at H; obtain rfl := Option.some.inj H; go_enter Try.func70, Try.ntmps70; go_wp2_with (first | ((with_reducible refine gate_dst (N := 2) rfl ?_); refine be (cs := #[.int .i64 a0_0, .slice A0_1 l0_1.length c0_1]) (t := 35) ?_; intro j6 hg w16 hbox hb; have j0 := Aside0.mk (hbox); have j7 := gz w hg (uB0 HB); have j1 := gz w hg (uB0 HB); replace HB := Aside0.mk (below_step (uB0 HB) hb); clear hb hbox hg; obtain ⟨jk, jl, jm, jn⟩ := bc2 j0) | ((with_reducible refine gate_callee (f := 79) rfl ?_); refine goesL_ (some 6) rfl rfl Try.func79 (by kernel_rfl) rfl #[.agg #[.int .i64 a0_0, .slice A0_1 l0_1.length c0_1]] rfl ul ?_; (with_reducible refine (impl_NetOk.calls a0_0 _ _ l0_1 false _ ?side1 ?side2 A3.out).mono ?_); (case side1 => exact uC j3 HB); (case side2 => exact j4.out); rintro e w18 ⟨rfl, hb⟩; refine ⟨_, rfl, ?_⟩; replace j0 := bb j0 hb; replace HB := Aside0.mk (below_step (uB1 HB j1.out) hb); (try clear hb); (try clear hb2); (try clear hk); (try clear hi))); go_ret; exact ⟨ux, uB1 HB j1.out⟩

end Go.Proofs.Ytdlaaccnaokdnaa.P
