-- written for this claim by a program (wip/gen/myprint.py over the print tool). Not trusted: Lean checks it.
import Derived.Test.YtcklifkbodmoaaaPx0
import Derived.Test.YtcklifkbodmoaaaHUp
import Derived.Test.YtcklifkbodmoaaaGPBase
import Derived.Test.YtcklifkbodmoaaaPFImplPlanArrivals
import Derived.Test.YtcklifkbodmoaaaPFImplPlanRides
import Derived.Test.YtcklifkbodmoaaaPFImplStairof
namespace Go.Proofs.Ytcklifkbodmoaaa.P
open Go.RowKit Go.Proofs.YtcklifkbodmoaaaV.PrintWords Go.Proofs.YtcklifkbodmoaaaV.PrintLast
set_option linter.unusedVariables false
set_option linter.unusedSimpArgs false

/-! ### impl_PlanStair: function 49 -/
mutual
def impl_PlanStair.j0 : Nat → Int → Int → Bool → Int → Int → List (S32) → Option ((List (S66)) × Bool)
 | 0, _, _, _, _, _, _ => none
 | k + 1, x1, x2, x31, x102000, x102001, x102002 => if x31 = true then (some (([] : List (S66)), false)) else (impl_PlanStair.l0 k x1 x2 (([] : List (S66))) x102002 (x102002.length : Int) 0 x102000 x102001 x102002)
def impl_PlanStair.l0 : Nat → Int → Int → List (S66) → List (S32) → Int → Int → Int → Int → List (S32) → Option ((List (S66)) × Bool)
 | 0, _, _, _, _, _, _, _, _, _ => none
 | k + 1, x1, x2, x8, x34, x35, x36, x102000, x102001, x102002 => if x36 < x35 then (if 0 ≤ x36 then (if x36 < (x34.length : Int) then (if ((rd_T32 x34 x36).f0) = x1 then ((impl_Plan_rides.f k x102000 x102001 x102002 x1 ((rd_T32 x34 x36).f2)).bind fun t114 => ((impl_Plan_arrivals.f k x102000 x102001 x102002 t114 x1 ((rd_T32 x34 x36).f2) 16).bind fun t117 => (if 0 ≤ x2 then (if x2 < (t117.length : Int) then (if (rd t117 x2) = 99999 then (impl_PlanStair.l0 k x1 x2 x8 x34 x35 (wrap64 (x36 + 1)) x102000 x102001 x102002) else (if x8.length < 8796093022208 then (impl_PlanStair.l0 k x1 x2 (x8 ++ [(⟨(rd_T32 x34 x36).f2, rd t117 x2⟩ : S66)]) x34 x35 (wrap64 (x36 + 1)) x102000 x102001 x102002) else (none))) else (none)) else (none)))) else (impl_PlanStair.l0 k x1 x2 x8 x34 x35 (wrap64 (x36 + 1)) x102000 x102001 x102002)) else (none)) else (none)) else ((impl_StairOf.f k x8).bind fun bt108 => (some (bt108.1, bt108.2)))
end
def impl_PlanStair.f (k : Nat) (a0_0 : Int) (a0_1 : Int) (l0_2 : List (S32)) (a1 : Int) (a2 : Int) : Option ((List (S66)) × Bool) := (impl_PlanOk.f k a0_0 a0_1 l0_2).bind fun t102 => (if t102 = true then ((impl_Plan_stop.f a0_0 a0_1 l0_2 a1).bind fun t103 => (if t103 = true then ((impl_Plan_stop.f a0_0 a0_1 l0_2 a2).bind fun t104 => (if t104 = true then (impl_PlanStair.j0 k a1 a2 (a1 == a2) a0_0 a0_1 l0_2) else (impl_PlanStair.j0 k a1 a2 true a0_0 a0_1 l0_2))) else (impl_PlanStair.j0 k a1 a2 true a0_0 a0_1 l0_2))) else (impl_PlanStair.j0 k a1 a2 true a0_0 a0_1 l0_2))
def impl_PlanStair.T8 : Bool × List (List Nat × List Nat) := (true, [([], []), ([], []), ([], []), ([], []), ([3], [3]), ([1, 2, 4], [1, 2, 4]), ([], []), ([], []), ([7], [7]), ([0, 5, 6, 8, 5], [0, 5, 6, 8]), ([], []), ([9, 10], [9, 10]), ([11], [11]), ([12, 9, 0, 1, 2, 3, 4, 5, 6, 7, 8, 9, 10, 11, 12], [12])])
def impl_PlanStair.B8 : List Nat := [0, 0, 0, 0, 8, 30, 0, 0, 128, 511, 0, 2047, 4095, 8191]
theorem impl_PlanStair.tab8 : rtab .any (opsOf Try.f49 8) = impl_PlanStair.T8 := by kernel_rfl
theorem impl_PlanStair.bits8 : waitsOk impl_PlanStair.T8.2 impl_PlanStair.B8 = true := by kernel_rfl
set_option maxHeartbeats 8000000 in
set_option maxRecDepth 100000 in
theorem impl_PlanStair.calls (k : Nat) (a0_0 : Int) (a0_1 : Int) (A0_2 : Option Addr) (c0_2 : Nat) (l0_2 : List (S32)) (a1 : Int) (a2 : Int) (r1 : List (S66)) (r2 : Bool) (w : World) (hr0_2 : Kd.C k32 w A0_2 l0_2.length l0_2) (hc0_2 : l0_2.length ≤ c0_2) (h : impl_PlanStair.f k a0_0 a0_1 l0_2 a1 a2 = some (r1, r2)) :
  Calls Try.prog 49 #[.agg #[.int .i64 a0_0, .int .i64 a0_1, .slice A0_2 l0_2.length c0_2], .int .i64 a1, .int .i64 a2] w fun e w' => ∃ v0_ : Value, e = .returned (.tuple #[v0_, .bool r2]) ∧ Kd.R k66 66 w' w.heap.size (fun _ => True) v0_ r1 ∧ Below w.heap.size w w' := by
 have hu25 := Try.underlying25
 have hu32 := Try.underlying32
 have hu66 := Try.underlying66
 have HR0_2 := Aside0.mk hr0_2
 have HC0_2 := Aside0.mk hc0_2
 clear hr0_2 hc0_2
 have HB := Aside0.mk (Below.refl w.heap.size w)
 have H : ((impl_PlanOk.f k a0_0 a0_1 l0_2).bind fun t102 => (if t102 = true then ((impl_Plan_stop.f a0_0 a0_1 l0_2 a1).bind fun t103 => (if t103 = true then ((impl_Plan_stop.f a0_0 a0_1 l0_2 a2).bind fun t104 => (if t104 = true then (impl_PlanStair.j0 k a1 a2 (a1 == a2) a0_0 a0_1 l0_2) else (impl_PlanStair.j0 k a1 a2 true a0_0 a0_1 l0_2))) else (impl_PlanStair.j0 k a1 a2 true a0_0 a0_1 l0_2))) else (impl_PlanStair.j0 k a1 a2 true a0_0 a0_1 l0_2))) = some (r1, r2) := h
 clear h
 have HC4 := Aside0.mk H
 clear H
 go_enter Try.func49, Try.ntmps49
 go_upto_region 1 with (first | ((with_reducible refine gate_dst (N := 3) rfl ?_); refine be (cs := #[.int .i64 a0_0, .int .i64 a0_1, .slice A0_2 l0_2.length c0_2]) (t := 25) ?_; intro gb101 hg w5 hbox hb; have BK101 := Aside0.mk (hbox); have GW101 := gz w hg (uB0 HB); have GE101 := gz w hg (uB0 HB); replace HB := Aside0.mk (below_step (uB0 HB) hb); clear hb hbox hg))
 (try simp only [Act.put, List.setIfInBounds_toArray, List.set_cons_zero, List.set_cons_succ])
 go_cut [31] (fun v31 wc => ∃ (kq : Nat) (x31_3 : Bool), v31 = .bool x31_3 ∧ Aside0 (impl_PlanStair.j0 kq a1 a2 x31_3 a0_0 a0_1 l0_2 = some (r1, r2)) ∧ Aside0 (kq ≤ k) ∧ Aside0 (wc.heap[gb101]? = some (.cells #[.int .i64 a0_0, .int .i64 a0_1, (.slice A0_2 l0_2.length c0_2)] 25 (0, 0))) ∧ Aside0 (Below w.heap.size w wc))
 case first =>
  have H := HC4.out; clear HC4; replace H := Option.bind_eq_some_iff.mp H; obtain ⟨t102, A60, H⟩ := H; replace H : (if t102 = true then ((impl_Plan_stop.f a0_0 a0_1 l0_2 a1).bind fun t103 => (if t103 = true then ((impl_Plan_stop.f a0_0 a0_1 l0_2 a2).bind fun t104 => (if t104 = true then (impl_PlanStair.j0 k a1 a2 (a1 == a2) a0_0 a0_1 l0_2) else (impl_PlanStair.j0 k a1 a2 true a0_0 a0_1 l0_2))) else (impl_PlanStair.j0 k a1 a2 true a0_0 a0_1 l0_2))) else (impl_PlanStair.j0 k a1 a2 true a0_0 a0_1 l0_2)) = some (r1, r2) := H; have A6 := Aside0.mk A60; clear A60; by_cases c7 : t102 = true
  ·
   subst c7; rw [if_pos rfl] at H; replace H := Option.bind_eq_some_iff.mp H; obtain ⟨t103, A80, H⟩ := H; replace H : (if t103 = true then ((impl_Plan_stop.f a0_0 a0_1 l0_2 a2).bind fun t104 => (if t104 = true then (impl_PlanStair.j0 k a1 a2 (a1 == a2) a0_0 a0_1 l0_2) else (impl_PlanStair.j0 k a1 a2 true a0_0 a0_1 l0_2))) else (impl_PlanStair.j0 k a1 a2 true a0_0 a0_1 l0_2)) = some (r1, r2) := H; have A8 := Aside0.mk A80; clear A80; by_cases c9 : t103 = true
   ·
    subst c9; rw [if_pos rfl] at H; replace H := Option.bind_eq_some_iff.mp H; obtain ⟨t104, A100, H⟩ := H; replace H : (if t104 = true then (impl_PlanStair.j0 k a1 a2 (a1 == a2) a0_0 a0_1 l0_2) else (impl_PlanStair.j0 k a1 a2 true a0_0 a0_1 l0_2)) = some (r1, r2) := H; have A10 := Aside0.mk A100; clear A100; by_cases c11 : t104 = true
    ·
     subst c11; rw [if_pos rfl] at H; have H' := Aside0.mk H; clear H; obtain ⟨hcz12_0, hcz12_1, hcz12_2, hfz12_0, hfz12_1, hfz12_2⟩ := bc3 BK101; go_wp2_with (first | ((with_reducible refine gate_callee (f := 21) rfl ?_); refine goesL_ (some 13) rfl rfl Try.func21 (by kernel_rfl) rfl #[.agg #[.int .i64 a0_0, .int .i64 a0_1, .slice A0_2 l0_2.length c0_2]] rfl ul ?_; (with_reducible refine (impl_PlanOk.calls k a0_0 a0_1 _ _ l0_2 true _ ?side1 ?side2 A6.out).mono ?_); (case side1 => exact uC HR0_2 HB); (case side2 => exact HC0_2.out); rintro e w13 ⟨rfl, hb⟩; refine ⟨_, rfl, ?_⟩; replace BK101 := bb BK101 hb; replace HB := Aside0.mk (below_step (uB1 HB GE101.out) hb); (try clear hb); (try clear hb2); (try clear hk); (try clear hi); obtain ⟨hcz14_0, hcz14_1, hcz14_2, hfz14_0, hfz14_1, hfz14_2⟩ := bc3 BK101) | (go_at_call 69; (with_reducible refine (impl_Plan_stop.calls a0_0 a0_1 _ _ l0_2 a1 true _ ?side1 ?side2 A8.out).mono ?_); (case side1 => exact uC HR0_2 HB); (case side2 => exact HC0_2.out); rintro e w15 ⟨rfl, hb⟩; replace BK101 := bb BK101 hb; replace HB := Aside0.mk (below_step (uB1 HB GE101.out) hb); (try clear hb); (try clear hb2); (try clear hk); (try clear hi); obtain ⟨hcz16_0, hcz16_1, hcz16_2, hfz16_0, hfz16_1, hfz16_2⟩ := bc3 BK101) | (go_at_call 69; (with_reducible refine (impl_Plan_stop.calls a0_0 a0_1 _ _ l0_2 a2 true _ ?side1 ?side2 A10.out).mono ?_); (case side1 => exact uC HR0_2 HB); (case side2 => exact HC0_2.out); rintro e w17 ⟨rfl, hb⟩; replace BK101 := bb BK101 hb; replace HB := Aside0.mk (below_step (uB1 HB GE101.out) hb); (try clear hb); (try clear hb2); (try clear hk); (try clear hi))); go_meet
     case rel => exact ⟨_, ((a1 == a2)), ue, H', ⟨by first | omega | exact Nat.le_refl _⟩, ⟨ub BK101⟩, ⟨uB1 HB GE101.out⟩⟩
    ·
     replace c11 := Bool.eq_false_iff.mpr c11; subst c11; rw [if_neg (show ¬ (false = true) by decide)] at H; have H' := Aside0.mk H; clear H; obtain ⟨hcz18_0, hcz18_1, hcz18_2, hfz18_0, hfz18_1, hfz18_2⟩ := bc3 BK101; go_wp2_with (first | ((with_reducible refine gate_callee (f := 21) rfl ?_); refine goesL_ (some 13) rfl rfl Try.func21 (by kernel_rfl) rfl #[.agg #[.int .i64 a0_0, .int .i64 a0_1, .slice A0_2 l0_2.length c0_2]] rfl ul ?_; (with_reducible refine (impl_PlanOk.calls k a0_0 a0_1 _ _ l0_2 true _ ?side1 ?side2 A6.out).mono ?_); (case side1 => exact uC HR0_2 HB); (case side2 => exact HC0_2.out); rintro e w19 ⟨rfl, hb⟩; refine ⟨_, rfl, ?_⟩; replace BK101 := bb BK101 hb; replace HB := Aside0.mk (below_step (uB1 HB GE101.out) hb); (try clear hb); (try clear hb2); (try clear hk); (try clear hi); obtain ⟨hcz20_0, hcz20_1, hcz20_2, hfz20_0, hfz20_1, hfz20_2⟩ := bc3 BK101) | (go_at_call 69; (with_reducible refine (impl_Plan_stop.calls a0_0 a0_1 _ _ l0_2 a1 true _ ?side1 ?side2 A8.out).mono ?_); (case side1 => exact uC HR0_2 HB); (case side2 => exact HC0_2.out); rintro e w21 ⟨rfl, hb⟩; replace BK101 := bb BK101 hb; replace HB := Aside0.mk (below_step (uB1 HB GE101.out) hb); (try clear hb); (try clear hb2); (try clear hk); (try clear hi); obtain ⟨hcz22_0, hcz22_1, hcz22_2, hfz22_0, hfz22_1, hfz22_2⟩ := bc3 BK101) | (go_at_call 69; (with_reducible refine (impl_Plan_stop.calls a0_0 a0_1 _ _ l0_2 a2 false _ ?side1 ?side2 A10.out).mono ?_); (case side1 => exact uC HR0_2 HB); (case side2 => exact HC0_2.out); rintro e w23 ⟨rfl, hb⟩; replace BK101 := bb BK101 hb; replace HB := Aside0.mk (below_step (uB1 HB GE101.out) hb); (try clear hb); (try clear hb2); (try clear hk); (try clear hi))); go_meet
     case rel => exact ⟨_, (true), ue, H', ⟨by first | omega | exact Nat.le_refl _⟩, ⟨ub BK101⟩, ⟨uB1 HB GE101.out⟩⟩
   ·
    replace c9 := Bool.eq_false_iff.mpr c9; subst c9; rw [if_neg (show ¬ (false = true) by decide)] at H; have H' := Aside0.mk H; clear H; obtain ⟨hcz24_0, hcz24_1, hcz24_2, hfz24_0, hfz24_1, hfz24_2⟩ := bc3 BK101; go_wp2_with (first | ((with_reducible refine gate_callee (f := 21) rfl ?_); refine goesL_ (some 13) rfl rfl Try.func21 (by kernel_rfl) rfl #[.agg #[.int .i64 a0_0, .int .i64 a0_1, .slice A0_2 l0_2.length c0_2]] rfl ul ?_; (with_reducible refine (impl_PlanOk.calls k a0_0 a0_1 _ _ l0_2 true _ ?side1 ?side2 A6.out).mono ?_); (case side1 => exact uC HR0_2 HB); (case side2 => exact HC0_2.out); rintro e w25 ⟨rfl, hb⟩; refine ⟨_, rfl, ?_⟩; replace BK101 := bb BK101 hb; replace HB := Aside0.mk (below_step (uB1 HB GE101.out) hb); (try clear hb); (try clear hb2); (try clear hk); (try clear hi); obtain ⟨hcz26_0, hcz26_1, hcz26_2, hfz26_0, hfz26_1, hfz26_2⟩ := bc3 BK101) | (go_at_call 69; (with_reducible refine (impl_Plan_stop.calls a0_0 a0_1 _ _ l0_2 a1 false _ ?side1 ?side2 A8.out).mono ?_); (case side1 => exact uC HR0_2 HB); (case side2 => exact HC0_2.out); rintro e w27 ⟨rfl, hb⟩; replace BK101 := bb BK101 hb; replace HB := Aside0.mk (below_step (uB1 HB GE101.out) hb); (try clear hb); (try clear hb2); (try clear hk); (try clear hi))); go_meet
    case rel => exact ⟨_, (true), ue, H', ⟨by first | omega | exact Nat.le_refl _⟩, ⟨ub BK101⟩, ⟨uB1 HB GE101.out⟩⟩
  ·
   replace c7 := Bool.eq_false_iff.mpr c7; subst c7; rw [if_neg (show ¬ (false = true) by decide)] at H; have H' := Aside0.mk H; clear H; obtain ⟨hcz28_0, hcz28_1, hcz28_2, hfz28_0, hfz28_1, hfz28_2⟩ := bc3 BK101; go_wp2_with (first | ((with_reducible refine gate_callee (f := 21) rfl ?_); refine goesL_ (some 13) rfl rfl Try.func21 (by kernel_rfl) rfl #[.agg #[.int .i64 a0_0, .int .i64 a0_1, .slice A0_2 l0_2.length c0_2]] rfl ul ?_; (with_reducible refine (impl_PlanOk.calls k a0_0 a0_1 _ _ l0_2 false _ ?side1 ?side2 A6.out).mono ?_); (case side1 => exact uC HR0_2 HB); (case side2 => exact HC0_2.out); rintro e w29 ⟨rfl, hb⟩; refine ⟨_, rfl, ?_⟩; replace BK101 := bb BK101 hb; replace HB := Aside0.mk (below_step (uB1 HB GE101.out) hb); (try clear hb); (try clear hb2); (try clear hk); (try clear hi))); go_meet
   case rel => exact ⟨_, (true), ue, H', ⟨by first | omega | exact Nat.le_refl _⟩, ⟨ub BK101⟩, ⟨uB1 HB GE101.out⟩⟩
 case rest =>
  clear HC4; try clear c1
  try clear c2
  try clear p2
  try clear c4
  try clear c7
  try clear c9
  try clear c11
  try clear c21
  try clear hcz12_0 hcz12_1 hcz12_2
  try clear hcz14_0 hcz14_1 hcz14_2
  try clear hcz16_0 hcz16_1 hcz16_2
  try clear hcz18_0 hcz18_1 hcz18_2
  try clear hcz20_0 hcz20_1 hcz20_2
  try clear hcz22_0 hcz22_1 hcz22_2
  try clear hcz24_0 hcz24_1 hcz24_2
  try clear hcz26_0 hcz26_1 hcz26_2
  try clear hcz28_0 hcz28_1 hcz28_2
  try clear hfz12_0 hfz12_1 hfz12_2
  try clear hfz14_0 hfz14_1 hfz14_2
  try clear hfz16_0 hfz16_1 hfz16_2
  try clear hfz18_0 hfz18_1 hfz18_2
  try clear hfz20_0 hfz20_1 hfz20_2
  try clear hfz22_0 hfz22_1 hfz22_2
  try clear hfz24_0 hfz24_1 hfz24_2
  try clear hfz26_0 hfz26_1 hfz26_2
  try clear hfz28_0 hfz28_1 hfz28_2
  obtain ⟨kq, x31_3, rfl, HA, HJ3, BK101, HB⟩ := hcut
  cases kq with
  | zero => exact absurd HA.out (by simp [impl_PlanStair.j0])
  | succ kj3 =>
   have H := HA.out; clear HA; simp only [impl_PlanStair.j0] at H; by_cases c30 : x31_3 = true
   ·
    subst c30; rw [if_pos rfl] at H; simp only [Option.some.injEq, Prod.mk.injEq] at H; obtain ⟨rfl, rfl⟩ := H; go_wp2; go_ret2; exact ⟨_, by first | rfl | (simp [errW_none, errW_some] <;> rfl) | (simp [*, errW_none, errW_some] <;> rfl), by first | exact Kd.R_nil _ _ _ _ _ | exact Kd.N_nil _ _ _ _ _ | exact Kd.V_nil _ _ _ _ _ | exact Kd.Q_nil _ _ _ _ _ | exact Kd.S_nil _ _ _ _ _, uB1 HB GE101.out⟩
   ·
    replace c30 := Bool.eq_false_iff.mpr c30; subst c30; rw [if_neg (show ¬ (false = true) by decide)] at H; obtain ⟨y105, hy105⟩ : ∃ y_ : List (S66), y_ = (([] : List (S66))) := ⟨_, rfl⟩
    replace H : (impl_PlanStair.l0 kj3 a1 a2 y105 l0_2 (l0_2.length : Int) 0 a0_0 a0_1 l0_2) = some (r1, r2) := by first | (rw [hy105]; with_reducible exact H) | (have H2_ := (Option.bind_some _ _).symm.trans H; rw [hy105]; with_reducible exact H2_) | (have H2_ := (Option.bind_some _ _).symm.trans H; with_reducible exact H2_) | with_reducible exact H | (rw [hy105]; exact H) | exact H
    have Ny105 := Aside0.mk hy105; clear hy105; have H' := Aside0.mk H; clear H; go_wp2_with (first | ((with_reducible refine gate_dst (N := 32) rfl ?_); refine Kd.R_lit k66 _ 66 ?hg (N := 32) ?hd (xs := ([] : List (S66))) (inner := []) (ok := fun _ => True) (okp := fun _ => True) ?hr ?hp (fun _ hk => hk) trivial (Below.refl _ _) (Nat.le_refl _) (by simp) ?_; (case hd => rfl); (case hg => rfl); (case hr => first | (go_simp; done) | (go_simp; rfl)); (case hp => exact (Reps.none _ _)); intro v106 w31 ho32 hb hg_ hnew_; clear hg_ hnew_; (first | rw [← Ny105.out] at ho32 | (simp only [Int.reduceToNat] at ho32; rw [← Ny105.out] at ho32)); have HO107 := Aside0.mk (Kd.R_lower ho32 (below_size (uB1 HB GE101.out))); replace BK101 := bb BK101 hb; replace HB := Aside0.mk (below_step (uB1 HB GE101.out) hb); clear hb ho32; obtain ⟨hcz33_0, hcz33_1, hcz33_2, hfz33_0, hfz33_1, hfz33_2⟩ := bc3 BK101)); go_loopg [8, 36] kj3 (fun kq v8 v36 w' => ∃ (x8_2 : List (S66)) (x36_2 : Int), v36 = .int .i64 x36_2 ∧ Aside0 (impl_PlanStair.l0 kq a1 a2 x8_2 l0_2 (l0_2.length : Int) x36_2 a0_0 a0_1 l0_2 = some (r1, r2)) ∧ Aside0 (kq ≤ kj3) ∧ Aside0 (Kd.R k66 66 w' w.heap.size (fun _ => True) v8 x8_2) ∧ Aside0 (w'.heap[gb101]? = some (.cells #[.int .i64 a0_0, .int .i64 a0_1, (.slice A0_2 l0_2.length c0_2)] 25 (0, 0))) ∧ Aside0 (Below w.heap.size w w'))
    case atStart => exact ⟨(y105), (0), ue, H', ⟨Nat.le_refl _⟩, ⟨ur HO107⟩, ⟨ub BK101⟩, ⟨uB1 HB GE101.out⟩⟩
    case round =>
     clear H'; try clear c1
     try clear c2
     try clear p2
     try clear c3
     try clear c4
     try clear c7
     try clear c9
     try clear c11
     try clear c21
     try clear c30
     try clear hcz12_0 hcz12_1 hcz12_2
     try clear hcz14_0 hcz14_1 hcz14_2
     try clear hcz16_0 hcz16_1 hcz16_2
     try clear hcz18_0 hcz18_1 hcz18_2
     try clear hcz20_0 hcz20_1 hcz20_2
     try clear hcz22_0 hcz22_1 hcz22_2
     try clear hcz24_0 hcz24_1 hcz24_2
     try clear hcz26_0 hcz26_1 hcz26_2
     try clear hcz28_0 hcz28_1 hcz28_2
     try clear hcz33_0 hcz33_1 hcz33_2
     try clear hfz12_0 hfz12_1 hfz12_2
     try clear hfz14_0 hfz14_1 hfz14_2
     try clear hfz16_0 hfz16_1 hfz16_2
     try clear hfz18_0 hfz18_1 hfz18_2
     try clear hfz20_0 hfz20_1 hfz20_2
     try clear hfz22_0 hfz22_1 hfz22_2
     try clear hfz24_0 hfz24_1 hfz24_2
     try clear hfz26_0 hfz26_1 hfz26_2
     try clear hfz28_0 hfz28_1 hfz28_2
     try clear hfz33_0 hfz33_1 hfz33_2
     try clear p2
     obtain ⟨x8_2, x36_2, rfl, HA, HK2, HO_8, BK101, HB⟩ := hrel
     cases gk with
     | zero => exact absurd HA.out (by simp [impl_PlanStair.l0])
     | succ k2 =>
      have H := HA.out; clear HA; simp only [impl_PlanStair.l0] at H; by_cases c34 : x36_2 < (l0_2.length : Int)
      ·
       rw [if_pos c34] at H; have c34b0 := dl c34; clear c34; by_cases c35 : 0 ≤ x36_2
       ·
        rw [if_pos c35] at H; have c35b0 := de c35; clear c35; by_cases c36 : x36_2 < (l0_2.length : Int)
        ·
         rw [if_pos c36] at H; have c36b0 := dl c36; clear c36; have HH_ := Aside0.mk H; clear H; have p112 : 0 ≤ (x36_2 : Int) := ua; have q112 : x36_2 < (l0_2.length : Int) := ua; obtain ⟨ad112, e112, hx112_0, hx112_1, hx112_2, hx112_3, hx112_4⟩ := at_T32 HR0_2.out x36_2 p112 q112
         cases e112
         replace hx112_0 := uc HB hx112_0; replace hx112_1 := uc HB hx112_1; replace hx112_2 := uc HB hx112_2; replace hx112_3 := uc HB hx112_3; replace hx112_4 := uc HB hx112_4; replace p112 := eq_true p112; replace q112 := eq_true q112; go_upto_region 7 with (first | ((with_reducible refine gate_dst (N := 10) rfl ?_); refine be (cs := #[.int .i64 0, .int .i64 0, .int .i64 0, .int .i64 0, .int .i64 0]) (t := 32) ?_; intro gb113 hg w37 hbox hb; replace HO_8 := Aside0.mk (Kd.R_below (ur HO_8) hb); have BK113 := Aside0.mk (hbox); have GW113 := gz w hg (uB1 HB GE101.out); have GE113 := gz w hg (uB1 HB GE101.out); replace HB := Aside0.mk (below_step (uB1 HB GE101.out) hb); have NB101_113 := gl hg BK101; have NB113_101 := gr hg BK101; replace BK101 := bb BK101 hb; clear hb hbox hg; have hnb38 := NB113_101.out; have hnc38 := NB101_113.out; obtain ⟨hcz39_0, hcz39_1, hcz39_2, hcz39_3, hcz39_4, hfz39_0, hfz39_1, hfz39_2, hfz39_3, hfz39_4⟩ := bc5 BK113))
         have H := HH_.out; clear HH_; by_cases c40 : ((rd_T32 l0_2 x36_2).f0) = a1
         ·
          rw [if_pos c40] at H; obtain ⟨c40b0, c40b1⟩ := dq c40; clear c40; replace H := Option.bind_eq_some_iff.mp H; obtain ⟨t114, A410, H⟩ := H; replace H : ((impl_Plan_arrivals.f k2 a0_0 a0_1 l0_2 t114 a1 ((rd_T32 l0_2 x36_2).f2) 16).bind fun t117 => (if 0 ≤ a2 then (if a2 < (t117.length : Int) then (if (rd t117 a2) = 99999 then (impl_PlanStair.l0 k2 a1 a2 x8_2 l0_2 (l0_2.length : Int) (wrap64 (x36_2 + 1)) a0_0 a0_1 l0_2) else (if x8_2.length < 8796093022208 then (impl_PlanStair.l0 k2 a1 a2 (x8_2 ++ [(⟨(rd_T32 l0_2 x36_2).f2, rd t117 a2⟩ : S66)]) l0_2 (l0_2.length : Int) (wrap64 (x36_2 + 1)) a0_0 a0_1 l0_2) else (none))) else (none)) else (none))) = some (r1, r2) := H; have A41 := Aside0.mk A410; clear A410; replace H := Option.bind_eq_some_iff.mp H; obtain ⟨t117, A420, H⟩ := H; replace H : (if 0 ≤ a2 then (if a2 < (t117.length : Int) then (if (rd t117 a2) = 99999 then (impl_PlanStair.l0 k2 a1 a2 x8_2 l0_2 (l0_2.length : Int) (wrap64 (x36_2 + 1)) a0_0 a0_1 l0_2) else (if x8_2.length < 8796093022208 then (impl_PlanStair.l0 k2 a1 a2 (x8_2 ++ [(⟨(rd_T32 l0_2 x36_2).f2, rd t117 a2⟩ : S66)]) l0_2 (l0_2.length : Int) (wrap64 (x36_2 + 1)) a0_0 a0_1 l0_2) else (none))) else (none)) else (none)) = some (r1, r2) := H; have A42 := Aside0.mk A420; clear A420; by_cases c43 : 0 ≤ a2
          ·
           rw [if_pos c43] at H; have c43b0 := de c43; clear c43; by_cases c44 : a2 < (t117.length : Int)
           ·
            rw [if_pos c44] at H; have c44b0 := dl c44; clear c44; by_cases c45 : (rd t117 a2) = 99999
            ·
             rw [if_pos c45] at H; obtain ⟨c45b0, c45b1⟩ := dq c45; clear c45; have H' := Aside0.mk H; clear H; try go_wp2
             have pi120 : (0 ≤ (a2 : Int)) = True := eq_true (ua); have qi120 : (a2 < (t117.length : Int)) = True := eq_true (ua); have n0_ : Aside0 (Kd.R k66 66 (((((w37.setCell ⟨gb113, 0, none⟩ (.int .i64 ((rd_T32 l0_2 x36_2).f0))).setCell ⟨gb113, 1, none⟩ (.int .i64 ((rd_T32 l0_2 x36_2).f1))).setCell ⟨gb113, 2, none⟩ (.int .i64 ((rd_T32 l0_2 x36_2).f2))).setCell ⟨gb113, 3, none⟩ (.int .i64 ((rd_T32 l0_2 x36_2).f3))).setCell ⟨gb113, 4, none⟩ (.int .i64 ((rd_T32 l0_2 x36_2).f4))) w.heap.size (fun _ => True) u8 x8_2) := ⟨by (with_reducible repeat (first | apply Kd.R_alloc | apply Kd.R_drewN | apply Kd.R_drew)); exact Kd.R_mono (rf5 HO_8 BK113) (fun _ hk => trivial)⟩
             have n1_ : Aside0 ((((((w37.setCell ⟨gb113, 0, none⟩ (.int .i64 ((rd_T32 l0_2 x36_2).f0))).setCell ⟨gb113, 1, none⟩ (.int .i64 ((rd_T32 l0_2 x36_2).f1))).setCell ⟨gb113, 2, none⟩ (.int .i64 ((rd_T32 l0_2 x36_2).f2))).setCell ⟨gb113, 3, none⟩ (.int .i64 ((rd_T32 l0_2 x36_2).f3))).setCell ⟨gb113, 4, none⟩ (.int .i64 ((rd_T32 l0_2 x36_2).f4))).heap[gb101]? = some (.cells #[.int .i64 a0_0, .int .i64 a0_1, .slice (some ad112) l0_2.length c0_2] 25 (0, 0))) := ⟨by (with_reducible repeat first | apply zbn | apply zbd | apply zba); refine fa5 ?_ NB101_113; exact ub BK101⟩
             have n2_ : Aside0 ((((((w37.setCell ⟨gb113, 0, none⟩ (.int .i64 ((rd_T32 l0_2 x36_2).f0))).setCell ⟨gb113, 1, none⟩ (.int .i64 ((rd_T32 l0_2 x36_2).f1))).setCell ⟨gb113, 2, none⟩ (.int .i64 ((rd_T32 l0_2 x36_2).f2))).setCell ⟨gb113, 3, none⟩ (.int .i64 ((rd_T32 l0_2 x36_2).f3))).setCell ⟨gb113, 4, none⟩ (.int .i64 ((rd_T32 l0_2 x36_2).f4))).heap[gb113]? = some (.cells #[.int .i64 ((rd_T32 l0_2 x36_2).f0), .int .i64 ((rd_T32 l0_2 x36_2).f1), .int .i64 ((rd_T32 l0_2 x36_2).f2), .int .i64 ((rd_T32 l0_2 x36_2).f3), .int .i64 ((rd_T32 l0_2 x36_2).f4)] 32 (0, 0))) := ⟨by (with_reducible repeat first | apply zbn | apply zbd | apply zba); refine pu5 (.int .i64 0) (.int .i64 0) (.int .i64 0) (.int .i64 0) (.int .i64 0) ?_; exact ub BK113⟩
             have n3_ : Aside0 (Below w.heap.size w (((((w37.setCell ⟨gb113, 0, none⟩ (.int .i64 ((rd_T32 l0_2 x36_2).f0))).setCell ⟨gb113, 1, none⟩ (.int .i64 ((rd_T32 l0_2 x36_2).f1))).setCell ⟨gb113, 2, none⟩ (.int .i64 ((rd_T32 l0_2 x36_2).f2))).setCell ⟨gb113, 3, none⟩ (.int .i64 ((rd_T32 l0_2 x36_2).f3))).setCell ⟨gb113, 4, none⟩ (.int .i64 ((rd_T32 l0_2 x36_2).f4)))) := ⟨uB2 HB GE101.out GE113.out⟩
             (try clear HO_8); (try clear BK101); (try clear BK113); (try clear HB); generalize (((((w37.setCell ⟨gb113, 0, none⟩ (.int .i64 ((rd_T32 l0_2 x36_2).f0))).setCell ⟨gb113, 1, none⟩ (.int .i64 ((rd_T32 l0_2 x36_2).f1))).setCell ⟨gb113, 2, none⟩ (.int .i64 ((rd_T32 l0_2 x36_2).f2))).setCell ⟨gb113, 3, none⟩ (.int .i64 ((rd_T32 l0_2 x36_2).f3))).setCell ⟨gb113, 4, none⟩ (.int .i64 ((rd_T32 l0_2 x36_2).f4))) = w40 at n0_ n1_ n2_ n3_ ⊢; have HO_8 := n0_; have BK101 := n1_; have BK113 := n2_; have HB := n3_; clear n0_ n1_ n2_ n3_; replace HO_8 := Aside0.mk (Kd.R_drew HO_8.out); replace BK101 := Aside0.mk (blk_drew BK101.out); replace BK113 := Aside0.mk (blk_drew BK113.out); replace HB := Aside0.mk (below_drew1 HB.out); refine start_ (n := 14) (S := fun w' => w'.cell? ⟨gb101, 0, none⟩ = some (.int .i64 a0_0) ∧ w'.cell? ⟨gb101, 1, none⟩ = some (.int .i64 a0_1) ∧ w'.cell? ⟨gb101, 2, none⟩ = some (.slice (some ad112) l0_2.length c0_2) ∧ w'.cell? ⟨gb113, 0, none⟩ = some (.int .i64 ((rd_T32 l0_2 x36_2).f0)) ∧ w'.cell? ⟨gb113, 1, none⟩ = some (.int .i64 ((rd_T32 l0_2 x36_2).f1)) ∧ w'.cell? ⟨gb113, 2, none⟩ = some (.int .i64 ((rd_T32 l0_2 x36_2).f2)) ∧ w'.cell? ⟨gb113, 3, none⟩ = some (.int .i64 ((rd_T32 l0_2 x36_2).f3)) ∧ w'.cell? ⟨gb113, 4, none⟩ = some (.int .i64 ((rd_T32 l0_2 x36_2).f4))) (ds := []) (zt 14 0) (by kernel_rfl) rfl (by kernel_rfl) (b35_ BK101 BK113) (fun hHeld => ?_); refine with_tabW impl_PlanStair.tab8 impl_PlanStair.bits8 (fun HT_ HW_ => ?_); generalize w40.drew = w41 at HO_8 BK101 BK113 HB hHeld ⊢; refine qz HT_ 2 ?_; refine qz HT_ 3 ?_; refine qz HT_ 6 ?_; refine qz HT_ 7 ?_; refine qz HT_ 10 ?_; refine qt HT_ HW_ hHeld 0 ?_; refine qt HT_ HW_ hHeld 1 ?_; refine qt HT_ HW_ hHeld 4 ?_; refine qt HT_ HW_ hHeld 8 ?_; refine qo HT_ 5 (fun K hK => ?_); refine goes_ Try.func64 (by kernel_rfl) rfl #[.agg #[.int .i64 a0_0, .int .i64 a0_1, .slice (some ad112) l0_2.length c0_2], .int .i64 a1, .int .i64 ((rd_T32 l0_2 x36_2).f2)] (by rfl) rfl rfl ul ?_; with_reducible refine (impl_Plan_rides.calls k2 a0_0 a0_1 _ _ l0_2 a1 ((rd_T32 l0_2 x36_2).f2) t114 _ ?side1 ?side2 A41.out).mono ?_
             (case side1 => exact uC HR0_2 HB); (case side2 => exact HC0_2.out); rintro e w42 ⟨v115, rfl, ho0, hb⟩; refine ⟨_, rfl, ?_⟩; replace HO_8 := Aside0.mk (Kd.R_below (ur HO_8) hb); have HO116 := Aside0.mk (Kd.R_lower ho0 (below_size (uB2 HB GE101.out GE113.out))); replace BK101 := bb BK101 hb; replace BK113 := bb BK113 hb; replace HB := Aside0.mk (below_step (uB2 HB GE101.out GE113.out) hb); (try clear hb); (try clear hb2); (try clear hk); (try clear hi); (try clear ho0); obtain ⟨Ao43, co43, eo43⟩ := Kd.R_slice HO116.out; (first | subst eo43 | (injection eo43 with f1_ f2_ f3_; have f4_ := f1_.symm; have f5_ := f3_.symm; clear f1_ f2_ f3_; subst f4_; subst f5_)); refine hK.out _ _ (b35_ BK101 BK113) (fun hHeld => ?_); clear hK K; refine nz ?_
             refine qo HT_ 9 (fun K hK => ?_); refine goes_ Try.func63 (by kernel_rfl) rfl #[.agg #[.int .i64 a0_0, .int .i64 a0_1, .slice (some ad112) l0_2.length c0_2], .slice Ao43 t114.length co43, .int .i64 a1, .int .i64 ((rd_T32 l0_2 x36_2).f2), .int .i64 16] (by rfl) rfl rfl ul ?_; with_reducible refine (impl_Plan_arrivals.calls k2 a0_0 a0_1 _ _ l0_2 _ _ t114 a1 ((rd_T32 l0_2 x36_2).f2) 16 t117 _ ?side1 ?side2 ?side3 ?side4 A42.out).mono ?_
             (case side1 => exact uC HR0_2 HB); (case side2 => exact HC0_2.out); (case side3 => exact uD (Kd.R_reads' HO116.out).2.2); (case side4 => exact (Kd.R_reads' HO116.out).2.1); rintro e w44 ⟨v118, rfl, ho0, hb⟩; refine ⟨_, rfl, ?_⟩; replace HO_8 := Aside0.mk (Kd.R_below (ur HO_8) hb); have HO119 := Aside0.mk (Kd.R_lower (Kd.R_new' ho0 (Kd.R_lt (ur HO116))) (below_size (uB2 HB GE101.out GE113.out))); replace HO116 := Aside0.mk (Kd.R_elder' (ur HO116) (Kd.R_base ho0) hb); replace BK101 := bb BK101 hb; replace BK113 := bb BK113 hb; replace HB := Aside0.mk (below_step (uB2 HB GE101.out GE113.out) hb); (try clear hb); (try clear hb2); (try clear hk); (try clear hi); (try clear ho0); obtain ⟨Ao45, co45, eo45⟩ := Kd.R_slice HO119.out; subst eo45; obtain ⟨ado45, fo45, _⟩ := Kd.at_int (Kd.R_reads' HO119.out).2.2 0 (by decide) (by have h1_ := of_eq_true pi120; have h2_ := of_eq_true qi120; omega)
             cases fo45
             refine hK.out _ _ (b35_ BK101 BK113) (fun hHeld => ?_); clear hK K; refine nz ?_
             refine qz HT_ 11 ?_; refine qo HT_ 12 (fun K hK => ?_); (have p120 : 0 ≤ (a2 : Int) := ua; have q120 : a2 < (t117.length : Int) := ua; obtain ⟨ad120, e120, hx120_0⟩ := Kd.at_int (Kd.R_reads' HO119.out).2.2 a2 p120 q120; obtain rfl : ado45 = ad120 := (by injection e120)); refine value_ (w1 := ?_) (v := ?_) (by rfl) rfl ?_ ?_; rotate_left 2
             ·
              go_simp
              constructor
              ·
               rfl
              ·
               rfl
             clear hx120_0; refine hK.out _ _ (b35_ BK101 BK113) (fun hHeld => ?_); clear hK K; refine nz ?_
             refine qz HT_ 13 ?_; refine done_ (done_of HT_.out (by kernel_rfl)) ?_; try go_wp2
             go_roundg k2
             case measure => have := HJ3.out; have := HK2.out; omega
             case rel => exact ⟨(x8_2), (wrap64 (x36_2 + 1)), ue, H', ⟨by have := HJ3.out; have := HK2.out; omega⟩, ⟨ur HO_8⟩, ⟨ub BK101⟩, ⟨uB2 HB GE101.out GE113.out⟩⟩
            ·
             rw [if_neg c45] at H; obtain ⟨c45b0, c45b1⟩ := dQ c45; by_cases c46 : x8_2.length < 8796093022208
             ·
              rw [if_pos c46] at H; have LMc46 := Aside0.mk c46; clear c46; obtain ⟨y121, hy121⟩ : ∃ y_ : List (S66), y_ = (x8_2 ++ [(⟨(rd_T32 l0_2 x36_2).f2, rd t117 a2⟩ : S66)]) := ⟨_, rfl⟩
              replace H : (impl_PlanStair.l0 k2 a1 a2 y121 l0_2 (l0_2.length : Int) (wrap64 (x36_2 + 1)) a0_0 a0_1 l0_2) = some (r1, r2) := by first | (rw [hy121]; with_reducible exact H) | (have H2_ := (Option.bind_some _ _).symm.trans H; rw [hy121]; with_reducible exact H2_) | (have H2_ := (Option.bind_some _ _).symm.trans H; with_reducible exact H2_) | with_reducible exact H | (rw [hy121]; exact H) | exact H
              have Ny121 := Aside0.mk hy121; clear hy121; have H' := Aside0.mk H; clear H; try go_wp2
              have pi120 : (0 ≤ (a2 : Int)) = True := eq_true (ua); have qi120 : (a2 < (t117.length : Int)) = True := eq_true (ua); have n0_ : Aside0 (Kd.R k66 66 (((((w37.setCell ⟨gb113, 0, none⟩ (.int .i64 ((rd_T32 l0_2 x36_2).f0))).setCell ⟨gb113, 1, none⟩ (.int .i64 ((rd_T32 l0_2 x36_2).f1))).setCell ⟨gb113, 2, none⟩ (.int .i64 ((rd_T32 l0_2 x36_2).f2))).setCell ⟨gb113, 3, none⟩ (.int .i64 ((rd_T32 l0_2 x36_2).f3))).setCell ⟨gb113, 4, none⟩ (.int .i64 ((rd_T32 l0_2 x36_2).f4))) w.heap.size (fun _ => True) u8 x8_2) := ⟨by (with_reducible repeat (first | apply Kd.R_alloc | apply Kd.R_drewN | apply Kd.R_drew)); exact Kd.R_mono (rf5 HO_8 BK113) (fun _ hk => trivial)⟩
              have n1_ : Aside0 ((((((w37.setCell ⟨gb113, 0, none⟩ (.int .i64 ((rd_T32 l0_2 x36_2).f0))).setCell ⟨gb113, 1, none⟩ (.int .i64 ((rd_T32 l0_2 x36_2).f1))).setCell ⟨gb113, 2, none⟩ (.int .i64 ((rd_T32 l0_2 x36_2).f2))).setCell ⟨gb113, 3, none⟩ (.int .i64 ((rd_T32 l0_2 x36_2).f3))).setCell ⟨gb113, 4, none⟩ (.int .i64 ((rd_T32 l0_2 x36_2).f4))).heap[gb101]? = some (.cells #[.int .i64 a0_0, .int .i64 a0_1, .slice (some ad112) l0_2.length c0_2] 25 (0, 0))) := ⟨by (with_reducible repeat first | apply zbn | apply zbd | apply zba); refine fa5 ?_ NB101_113; exact ub BK101⟩
              have n2_ : Aside0 ((((((w37.setCell ⟨gb113, 0, none⟩ (.int .i64 ((rd_T32 l0_2 x36_2).f0))).setCell ⟨gb113, 1, none⟩ (.int .i64 ((rd_T32 l0_2 x36_2).f1))).setCell ⟨gb113, 2, none⟩ (.int .i64 ((rd_T32 l0_2 x36_2).f2))).setCell ⟨gb113, 3, none⟩ (.int .i64 ((rd_T32 l0_2 x36_2).f3))).setCell ⟨gb113, 4, none⟩ (.int .i64 ((rd_T32 l0_2 x36_2).f4))).heap[gb113]? = some (.cells #[.int .i64 ((rd_T32 l0_2 x36_2).f0), .int .i64 ((rd_T32 l0_2 x36_2).f1), .int .i64 ((rd_T32 l0_2 x36_2).f2), .int .i64 ((rd_T32 l0_2 x36_2).f3), .int .i64 ((rd_T32 l0_2 x36_2).f4)] 32 (0, 0))) := ⟨by (with_reducible repeat first | apply zbn | apply zbd | apply zba); refine pu5 (.int .i64 0) (.int .i64 0) (.int .i64 0) (.int .i64 0) (.int .i64 0) ?_; exact ub BK113⟩
              have n3_ : Aside0 (Below w.heap.size w (((((w37.setCell ⟨gb113, 0, none⟩ (.int .i64 ((rd_T32 l0_2 x36_2).f0))).setCell ⟨gb113, 1, none⟩ (.int .i64 ((rd_T32 l0_2 x36_2).f1))).setCell ⟨gb113, 2, none⟩ (.int .i64 ((rd_T32 l0_2 x36_2).f2))).setCell ⟨gb113, 3, none⟩ (.int .i64 ((rd_T32 l0_2 x36_2).f3))).setCell ⟨gb113, 4, none⟩ (.int .i64 ((rd_T32 l0_2 x36_2).f4)))) := ⟨uB2 HB GE101.out GE113.out⟩
              (try clear HO_8); (try clear BK101); (try clear BK113); (try clear HB); generalize (((((w37.setCell ⟨gb113, 0, none⟩ (.int .i64 ((rd_T32 l0_2 x36_2).f0))).setCell ⟨gb113, 1, none⟩ (.int .i64 ((rd_T32 l0_2 x36_2).f1))).setCell ⟨gb113, 2, none⟩ (.int .i64 ((rd_T32 l0_2 x36_2).f2))).setCell ⟨gb113, 3, none⟩ (.int .i64 ((rd_T32 l0_2 x36_2).f3))).setCell ⟨gb113, 4, none⟩ (.int .i64 ((rd_T32 l0_2 x36_2).f4))) = w40 at n0_ n1_ n2_ n3_ ⊢; have HO_8 := n0_; have BK101 := n1_; have BK113 := n2_; have HB := n3_; clear n0_ n1_ n2_ n3_; replace HO_8 := Aside0.mk (Kd.R_drew HO_8.out); replace BK101 := Aside0.mk (blk_drew BK101.out); replace BK113 := Aside0.mk (blk_drew BK113.out); replace HB := Aside0.mk (below_drew1 HB.out); refine start_ (n := 14) (S := fun w' => w'.cell? ⟨gb101, 0, none⟩ = some (.int .i64 a0_0) ∧ w'.cell? ⟨gb101, 1, none⟩ = some (.int .i64 a0_1) ∧ w'.cell? ⟨gb101, 2, none⟩ = some (.slice (some ad112) l0_2.length c0_2) ∧ w'.cell? ⟨gb113, 0, none⟩ = some (.int .i64 ((rd_T32 l0_2 x36_2).f0)) ∧ w'.cell? ⟨gb113, 1, none⟩ = some (.int .i64 ((rd_T32 l0_2 x36_2).f1)) ∧ w'.cell? ⟨gb113, 2, none⟩ = some (.int .i64 ((rd_T32 l0_2 x36_2).f2)) ∧ w'.cell? ⟨gb113, 3, none⟩ = some (.int .i64 ((rd_T32 l0_2 x36_2).f3)) ∧ w'.cell? ⟨gb113, 4, none⟩ = some (.int .i64 ((rd_T32 l0_2 x36_2).f4))) (ds := []) (zt 14 0) (by kernel_rfl) rfl (by kernel_rfl) (b35_ BK101 BK113) (fun hHeld => ?_); refine with_tabW impl_PlanStair.tab8 impl_PlanStair.bits8 (fun HT_ HW_ => ?_); generalize w40.drew = w41 at HO_8 BK101 BK113 HB hHeld ⊢; refine qz HT_ 2 ?_; refine qz HT_ 3 ?_; refine qz HT_ 6 ?_; refine qz HT_ 7 ?_; refine qz HT_ 10 ?_; refine qt HT_ HW_ hHeld 0 ?_; refine qt HT_ HW_ hHeld 1 ?_; refine qt HT_ HW_ hHeld 4 ?_; refine qt HT_ HW_ hHeld 8 ?_; refine qo HT_ 5 (fun K hK => ?_); refine goes_ Try.func64 (by kernel_rfl) rfl #[.agg #[.int .i64 a0_0, .int .i64 a0_1, .slice (some ad112) l0_2.length c0_2], .int .i64 a1, .int .i64 ((rd_T32 l0_2 x36_2).f2)] (by rfl) rfl rfl ul ?_; with_reducible refine (impl_Plan_rides.calls k2 a0_0 a0_1 _ _ l0_2 a1 ((rd_T32 l0_2 x36_2).f2) t114 _ ?side1 ?side2 A41.out).mono ?_
              (case side1 => exact uC HR0_2 HB); (case side2 => exact HC0_2.out); rintro e w42 ⟨v115, rfl, ho0, hb⟩; refine ⟨_, rfl, ?_⟩; replace HO_8 := Aside0.mk (Kd.R_below (ur HO_8) hb); have HO116 := Aside0.mk (Kd.R_lower ho0 (below_size (uB2 HB GE101.out GE113.out))); replace BK101 := bb BK101 hb; replace BK113 := bb BK113 hb; replace HB := Aside0.mk (below_step (uB2 HB GE101.out GE113.out) hb); (try clear hb); (try clear hb2); (try clear hk); (try clear hi); (try clear ho0); obtain ⟨Ao43, co43, eo43⟩ := Kd.R_slice HO116.out; (first | subst eo43 | (injection eo43 with f1_ f2_ f3_; have f4_ := f1_.symm; have f5_ := f3_.symm; clear f1_ f2_ f3_; subst f4_; subst f5_)); refine hK.out _ _ (b35_ BK101 BK113) (fun hHeld => ?_); clear hK K; refine nz ?_
              refine qo HT_ 9 (fun K hK => ?_); refine goes_ Try.func63 (by kernel_rfl) rfl #[.agg #[.int .i64 a0_0, .int .i64 a0_1, .slice (some ad112) l0_2.length c0_2], .slice Ao43 t114.length co43, .int .i64 a1, .int .i64 ((rd_T32 l0_2 x36_2).f2), .int .i64 16] (by rfl) rfl rfl ul ?_; with_reducible refine (impl_Plan_arrivals.calls k2 a0_0 a0_1 _ _ l0_2 _ _ t114 a1 ((rd_T32 l0_2 x36_2).f2) 16 t117 _ ?side1 ?side2 ?side3 ?side4 A42.out).mono ?_
              (case side1 => exact uC HR0_2 HB); (case side2 => exact HC0_2.out); (case side3 => exact uD (Kd.R_reads' HO116.out).2.2); (case side4 => exact (Kd.R_reads' HO116.out).2.1); rintro e w44 ⟨v118, rfl, ho0, hb⟩; refine ⟨_, rfl, ?_⟩; replace HO_8 := Aside0.mk (Kd.R_below (ur HO_8) hb); have HO119 := Aside0.mk (Kd.R_lower (Kd.R_new' ho0 (Kd.R_lt (ur HO116))) (below_size (uB2 HB GE101.out GE113.out))); replace HO116 := Aside0.mk (Kd.R_elder' (ur HO116) (Kd.R_base ho0) hb); replace BK101 := bb BK101 hb; replace BK113 := bb BK113 hb; replace HB := Aside0.mk (below_step (uB2 HB GE101.out GE113.out) hb); (try clear hb); (try clear hb2); (try clear hk); (try clear hi); (try clear ho0); obtain ⟨Ao45, co45, eo45⟩ := Kd.R_slice HO119.out; subst eo45; obtain ⟨ado45, fo45, _⟩ := Kd.at_int (Kd.R_reads' HO119.out).2.2 0 (by decide) (by have h1_ := of_eq_true pi120; have h2_ := of_eq_true qi120; omega)
              cases fo45
              refine hK.out _ _ (b35_ BK101 BK113) (fun hHeld => ?_); clear hK K; refine nz ?_
              refine qz HT_ 11 ?_; refine qo HT_ 12 (fun K hK => ?_); (have p120 : 0 ≤ (a2 : Int) := ua; have q120 : a2 < (t117.length : Int) := ua; obtain ⟨ad120, e120, hx120_0⟩ := Kd.at_int (Kd.R_reads' HO119.out).2.2 a2 p120 q120; obtain rfl : ado45 = ad120 := (by injection e120)); refine value_ (w1 := ?_) (v := ?_) (by rfl) rfl ?_ ?_; rotate_left 2
              ·
               go_simp
               constructor
               ·
                rfl
               ·
                rfl
              clear hx120_0; refine hK.out _ _ (b35_ BK101 BK113) (fun hHeld => ?_); clear hK K; refine nz ?_
              refine qz HT_ 13 ?_; refine done_ (done_of HT_.out (by kernel_rfl)) ?_; obtain ⟨hcz46_0, hcz46_1, hcz46_2, hcz46_3, hcz46_4, hfz46_0, hfz46_1, hfz46_2, hfz46_3, hfz46_4⟩ := bc5 BK113; try go_wp2_with (first | ((with_reducible refine gate_builtin (b := .append) (xs := #[.tmp 59, .tmp 64]) rfl ?_); at_builtin; refine Kd.R_append k66 (w0 := w) w.heap.size rfl (.tmp 59) (.tmp 64) 59 66 (.agg #[(.int .i64 0), (.int .i64 0)]) 16 rfl Try.underlying59 info66 rfl (by decide) (by omega) u8 x8_2 (⟨(rd_T32 l0_2 x36_2).f2, rd t117 a2⟩ : S66) [.int .i64 ((rd_T32 l0_2 x36_2).f2), .int .i64 (rd t117 a2)] (fun _ => True) (fun _ => False) rfl rfl ?aP (fun _ hk => hk.elim) ?aF ?aO ?aB ?aS ?aL ?_; (case aP => exact k66_mkM _ _ _ (⟨(rd_T32 l0_2 x36_2).f2, rd t117 a2⟩ : S66)); (case aB => exact (uB2 HB GE101.out GE113.out)); (case aF => exact (fun _ _ => trivial)); (case aO => exact (ur HO_8)); (case aS => exact (below_size (uB2 HB GE101.out GE113.out))); (case aL => have := LMc46.out; omega); intro v122 w47 ho hb hg hat; rw [← Ny121.out] at ho; replace BK101 := bg BK101 hg (Kd.R_ne HO_8.out BK101.out (by decide)); replace BK113 := bg BK113 hg (Kd.R_ne HO_8.out BK113.out (by decide)); replace HO116 := Aside0.mk (Kd.R_over' (ur HO116) (Kd.R_typed (ur HO_8)) (by decide) hg); replace HO119 := Aside0.mk (Kd.R_over' (ur HO119) (Kd.R_typed (ur HO_8)) (by decide) hg); replace HB := Aside0.mk (hb); have HO123 := Aside0.mk (ho); clear HO_8; clear ho hb hg hat))
              go_roundg k2
              case measure => have := HJ3.out; have := HK2.out; omega
              case rel => exact ⟨(y121), (wrap64 (x36_2 + 1)), ue, H', ⟨by have := HJ3.out; have := HK2.out; omega⟩, ⟨ur HO123⟩, ⟨ub BK101⟩, ⟨uB2 HB GE101.out GE113.out⟩⟩
             ·
              rw [if_neg c46] at H; exact absurd H (by simp)
           ·
            rw [if_neg c44] at H; exact absurd H (by simp)
          ·
           rw [if_neg c43] at H; exact absurd H (by simp)
         ·
          rw [if_neg c40] at H; obtain ⟨c40b0, c40b1⟩ := dQ c40; have H' := Aside0.mk H; clear H; go_wp2; go_roundg k2
          case measure => have := HJ3.out; have := HK2.out; omega
          case rel => exact ⟨(x8_2), (wrap64 (x36_2 + 1)), ue, H', ⟨by have := HJ3.out; have := HK2.out; omega⟩, ⟨by (with_reducible repeat (first | apply Kd.R_alloc | apply Kd.R_drewN | apply Kd.R_drew)); exact Kd.R_mono (rf5 HO_8 BK113) (fun _ hk => trivial)⟩, ⟨by (with_reducible repeat first | apply zbn | apply zbd | apply zba); refine fa5 ?_ NB101_113; exact ub BK101⟩, ⟨uB2 HB GE101.out GE113.out⟩⟩
        ·
         rw [if_neg c36] at H; exact absurd H (by simp)
       ·
        rw [if_neg c35] at H; exact absurd H (by simp)
      ·
       rw [if_neg c34] at H; have c34b0 := DL c34; clear c34; replace H := Option.bind_eq_some_iff.mp H; obtain ⟨⟨t108, t109⟩, A480, H⟩ := H; replace H : (some (t108, t109)) = some (r1, r2) := H; have A48 := Aside0.mk A480; clear A480; simp only [Option.some.injEq, Prod.mk.injEq] at H; obtain ⟨rfl, rfl⟩ := H; obtain ⟨Ao49, co49, eo49⟩ := Kd.R_slice HO_8.out; subst eo49; go_wp2_with (first | ((with_reducible refine gate_callee (f := 85) rfl ?_); refine goesL_ (some 68) rfl rfl Try.func85 (by kernel_rfl) rfl #[.slice Ao49 x8_2.length co49] rfl ul ?_; (with_reducible refine (impl_StairOf.calls k2 _ _ x8_2 t108 t109 _ ?side1 ?side2 A48.out).mono ?_); (case side1 => exact uD (Kd.R_reads' HO_8.out).2.2); (case side2 => exact (Kd.R_reads' HO_8.out).2.1); rintro e w50 ⟨v110, rfl, ho0, hb⟩; refine ⟨_, rfl, ?_⟩; have HO111 := Aside0.mk (Kd.R_lower (Kd.R_new' ho0 (Kd.R_lt (ur HO_8))) (below_size (uB1 HB GE101.out))); replace HO_8 := Aside0.mk (Kd.R_elder' (ur HO_8) (Kd.R_base ho0) hb); replace BK101 := bb BK101 hb; replace HB := Aside0.mk (below_step (uB1 HB GE101.out) hb); (try clear hb); (try clear hb2); (try clear hk); (try clear hi); (try clear ho0))); go_ret2; exact ⟨_, by first | rfl | (simp [errW_none, errW_some] <;> rfl) | (simp [*, errW_none, errW_some] <;> rfl), by (with_reducible repeat (first | apply Kd.R_alloc | apply Kd.R_drewN | apply Kd.R_drew)); exact Kd.R_mono HO111.out (fun _ hk => trivial), uB1 HB GE101.out⟩

end Go.Proofs.Ytcklifkbodmoaaa.P
