-- written for this claim by a program (wip/gen/myprint.py over the print tool). Not trusted: Lean checks it.
import Derived.Test.YtcklifkbodmoaaaPx0
import Derived.Test.YtcklifkbodmoaaaHUp
import Derived.Test.YtcklifkbodmoaaaGPBase
import Derived.Test.YtcklifkbodmoaaaPFImplPlanArrivals
import Derived.Test.YtcklifkbodmoaaaPFImplPlanRides
namespace Go.Proofs.Ytcklifkbodmoaaa.P
open Go.RowKit Go.Proofs.YtcklifkbodmoaaaV.PrintWords Go.Proofs.YtcklifkbodmoaaaV.PrintLast
set_option linter.unusedVariables false
set_option linter.unusedSimpArgs false

/-! ### impl_PlanAll: function 18 -/
def impl_PlanAll.f (k : Nat) (a0_0 : Int) (a0_1 : Int) (l0_2 : List (S32)) (a1 : Int) (a2 : Int) : Option (List Int) := (impl_planIn.f k a0_0 a0_1 l0_2 a1 a2).bind fun t102 => (if t102 = true then ((impl_Plan_rides.f k a0_0 a0_1 l0_2 a1 a2).bind fun t103 => ((impl_Plan_arrivals.f k a0_0 a0_1 l0_2 t103 a1 a2 16).bind fun t106 => (some t106))) else (some ([] : List Int)))
def impl_PlanAll.T3 : Bool × List (List Nat × List Nat) := (true, [([], []), ([], []), ([], []), ([], []), ([1, 2, 3], [1, 2, 3]), ([], []), ([], []), ([0, 4, 5, 6, 4], [0, 4, 5, 6]), ([7, 7, 0, 1, 2, 3, 4, 5, 6, 7], [7])])
def impl_PlanAll.B3 : List Nat := [0, 0, 0, 0, 14, 0, 0, 127, 255]
theorem impl_PlanAll.tab3 : rtab .any (opsOf Try.f18 3) = impl_PlanAll.T3 := by kernel_rfl
theorem impl_PlanAll.bits3 : waitsOk impl_PlanAll.T3.2 impl_PlanAll.B3 = true := by kernel_rfl
set_option maxHeartbeats 8000000 in
set_option maxRecDepth 100000 in
theorem impl_PlanAll.calls (k : Nat) (a0_0 : Int) (a0_1 : Int) (A0_2 : Option Addr) (c0_2 : Nat) (l0_2 : List (S32)) (a1 : Int) (a2 : Int) (r : List Int) (w : World) (hr0_2 : Kd.C k32 w A0_2 l0_2.length l0_2) (hc0_2 : l0_2.length ≤ c0_2) (h : impl_PlanAll.f k a0_0 a0_1 l0_2 a1 a2 = some r) :
  Calls Try.prog 18 #[.agg #[.int .i64 a0_0, .int .i64 a0_1, .slice A0_2 l0_2.length c0_2], .int .i64 a1, .int .i64 a2] w fun e w' => ∃ v0_ : Value, e = .returned (v0_) ∧ Kd.R (Kd.int .i64) 3 w' w.heap.size (fun _ => True) v0_ r ∧ Below w.heap.size w w' := by
 have hu25 := Try.underlying25
 have HR0_2 := Aside0.mk hr0_2
 have HC0_2 := Aside0.mk hc0_2
 clear hr0_2 hc0_2
 have HB := Aside0.mk (Below.refl w.heap.size w)
 have H : ((impl_planIn.f k a0_0 a0_1 l0_2 a1 a2).bind fun t102 => (if t102 = true then ((impl_Plan_rides.f k a0_0 a0_1 l0_2 a1 a2).bind fun t103 => ((impl_Plan_arrivals.f k a0_0 a0_1 l0_2 t103 a1 a2 16).bind fun t106 => (some t106))) else (some ([] : List Int)))) = some r := h
 clear h
 replace H := Option.bind_eq_some_iff.mp H
 obtain ⟨t102, A40, H⟩ := H
 replace H : (if t102 = true then ((impl_Plan_rides.f k a0_0 a0_1 l0_2 a1 a2).bind fun t103 => ((impl_Plan_arrivals.f k a0_0 a0_1 l0_2 t103 a1 a2 16).bind fun t106 => (some t106))) else (some ([] : List Int))) = some r := H
 have A4 := Aside0.mk A40
 clear A40
 by_cases c5 : t102 = true
 ·
  subst c5; rw [if_pos rfl] at H; replace H := Option.bind_eq_some_iff.mp H; obtain ⟨t103, A60, H⟩ := H; replace H : ((impl_Plan_arrivals.f k a0_0 a0_1 l0_2 t103 a1 a2 16).bind fun t106 => (some t106)) = some r := H; have A6 := Aside0.mk A60; clear A60; replace H := Option.bind_eq_some_iff.mp H; obtain ⟨t106, A70, H⟩ := H; replace H : (some t106) = some r := H; have A7 := Aside0.mk A70; clear A70; obtain rfl := Option.some.inj H; go_enter Try.func18, Try.ntmps18; try go_wp2_with (first | ((with_reducible refine gate_dst (N := 3) rfl ?_); refine be (cs := #[.int .i64 a0_0, .int .i64 a0_1, .slice A0_2 l0_2.length c0_2]) (t := 25) ?_; intro gb101 hg w8 hbox hb; have BK101 := Aside0.mk (hbox); have GW101 := gz w hg (uB0 HB); have GE101 := gz w hg (uB0 HB); replace HB := Aside0.mk (below_step (uB0 HB) hb); clear hb hbox hg; obtain ⟨hcz9_0, hcz9_1, hcz9_2, hfz9_0, hfz9_1, hfz9_2⟩ := bc3 BK101) | ((with_reducible refine gate_callee (f := 62) rfl ?_); refine goesL_ (some 10) rfl rfl Try.func62 (by kernel_rfl) rfl #[.agg #[.int .i64 a0_0, .int .i64 a0_1, .slice A0_2 l0_2.length c0_2], .int .i64 a1, .int .i64 a2] rfl ul ?_; (with_reducible refine (impl_planIn.calls k a0_0 a0_1 _ _ l0_2 a1 a2 true _ ?side1 ?side2 A4.out).mono ?_); (case side1 => exact uC HR0_2 HB); (case side2 => exact HC0_2.out); rintro e w10 ⟨rfl, hb⟩; refine ⟨_, rfl, ?_⟩; replace BK101 := bb BK101 hb; replace HB := Aside0.mk (below_step (uB1 HB GE101.out) hb); (try clear hb)))
  replace BK101 := Aside0.mk (blk_drew BK101.out); replace HB := Aside0.mk (below_drew1 HB.out); refine start_ (n := 9) (S := fun w' => w'.cell? ⟨gb101, 0, none⟩ = some (.int .i64 a0_0) ∧ w'.cell? ⟨gb101, 1, none⟩ = some (.int .i64 a0_1) ∧ w'.cell? ⟨gb101, 2, none⟩ = some (.slice A0_2 l0_2.length c0_2)) (ds := []) (zt 9 0) (by kernel_rfl) rfl (by kernel_rfl) (b3_ BK101) (fun hHeld => ?_); refine with_tabW impl_PlanAll.tab3 impl_PlanAll.bits3 (fun HT_ HW_ => ?_); generalize w10.drew = w11 at BK101 HB hHeld ⊢; refine qz HT_ 2 ?_; refine qz HT_ 3 ?_; refine qz HT_ 5 ?_; refine qz HT_ 6 ?_; refine qt HT_ HW_ hHeld 0 ?_; refine qt HT_ HW_ hHeld 1 ?_; refine qo HT_ 4 (fun K hK => ?_); refine goes_ Try.func64 (by kernel_rfl) rfl #[.agg #[.int .i64 a0_0, .int .i64 a0_1, .slice A0_2 l0_2.length c0_2], .int .i64 a1, .int .i64 a2] (by rfl) rfl rfl ul ?_; with_reducible refine (impl_Plan_rides.calls k a0_0 a0_1 _ _ l0_2 a1 a2 t103 _ ?side1 ?side2 A6.out).mono ?_
  (case side1 => exact uC HR0_2 HB); (case side2 => exact HC0_2.out); rintro e w12 ⟨v104, rfl, ho0, hb⟩; refine ⟨_, rfl, ?_⟩; have HO105 := Aside0.mk (Kd.R_lower ho0 (below_size (uB1 HB GE101.out))); replace BK101 := bb BK101 hb; replace HB := Aside0.mk (below_step (uB1 HB GE101.out) hb); (try clear hb); (try clear ho0); obtain ⟨Ao13, co13, eo13⟩ := Kd.R_slice HO105.out; (subst eo13); refine hK.out _ _ (b3_ BK101) (fun hHeld => ?_); clear hK K; refine nz ?_
  refine qo HT_ 7 (fun K hK => ?_); refine goes_ Try.func63 (by kernel_rfl) rfl #[.agg #[.int .i64 a0_0, .int .i64 a0_1, .slice A0_2 l0_2.length c0_2], .slice Ao13 t103.length co13, .int .i64 a1, .int .i64 a2, .int .i64 16] (by rfl) rfl rfl ul ?_; with_reducible refine (impl_Plan_arrivals.calls k a0_0 a0_1 _ _ l0_2 _ _ t103 a1 a2 16 t106 _ ?side1 ?side2 ?side3 ?side4 A7.out).mono ?_
  (case side1 => exact uC HR0_2 HB); (case side2 => exact HC0_2.out); (case side3 => exact uD (Kd.R_reads' HO105.out).2.2); (case side4 => exact (Kd.R_reads' HO105.out).2.1); rintro e w14 ⟨v107, rfl, ho0, hb⟩; refine ⟨_, rfl, ?_⟩; have HO108 := Aside0.mk (Kd.R_lower (Kd.R_new' ho0 (Kd.R_lt (ur HO105))) (below_size (uB1 HB GE101.out))); replace HO105 := Aside0.mk (Kd.R_elder' (ur HO105) (Kd.R_base ho0) hb); replace BK101 := bb BK101 hb; replace HB := Aside0.mk (below_step (uB1 HB GE101.out) hb); (try clear hb); (try clear ho0); refine hK.out _ _ (b3_ BK101) (fun hHeld => ?_); clear hK K; refine nz ?_
  refine qz HT_ 8 ?_; refine done_ (done_of HT_.out (by kernel_rfl)) ?_; try go_wp2
  go_ret; exact ⟨_, by first | rfl | (simp [errW_none, errW_some] <;> rfl) | (simp [*, errW_none, errW_some] <;> rfl), by (with_reducible repeat (first | apply Kd.R_alloc | apply Kd.R_drewN | apply Kd.R_drew)); exact Kd.R_mono HO108.out (fun _ hk => trivial), uB1 HB GE101.out⟩
 ·
  replace c5 := Bool.eq_false_iff.mpr c5; subst c5; rw [if_neg (show ¬ (false = true) by decide)] at H; obtain rfl := Option.some.inj H; go_enter Try.func18, Try.ntmps18; go_wp2_with (first | ((with_reducible refine gate_dst (N := 3) rfl ?_); refine be (cs := #[.int .i64 a0_0, .int .i64 a0_1, .slice A0_2 l0_2.length c0_2]) (t := 25) ?_; intro gb101 hg w15 hbox hb; have BK101 := Aside0.mk (hbox); have GW101 := gz w hg (uB0 HB); have GE101 := gz w hg (uB0 HB); replace HB := Aside0.mk (below_step (uB0 HB) hb); clear hb hbox hg; obtain ⟨hcz16_0, hcz16_1, hcz16_2, hfz16_0, hfz16_1, hfz16_2⟩ := bc3 BK101) | ((with_reducible refine gate_callee (f := 62) rfl ?_); refine goesL_ (some 10) rfl rfl Try.func62 (by kernel_rfl) rfl #[.agg #[.int .i64 a0_0, .int .i64 a0_1, .slice A0_2 l0_2.length c0_2], .int .i64 a1, .int .i64 a2] rfl ul ?_; (with_reducible refine (impl_planIn.calls k a0_0 a0_1 _ _ l0_2 a1 a2 false _ ?side1 ?side2 A4.out).mono ?_); (case side1 => exact uC HR0_2 HB); (case side2 => exact HC0_2.out); rintro e w17 ⟨rfl, hb⟩; refine ⟨_, rfl, ?_⟩; replace BK101 := bb BK101 hb; replace HB := Aside0.mk (below_step (uB1 HB GE101.out) hb); (try clear hb))); go_ret; exact ⟨_, by first | rfl | (simp [errW_none, errW_some] <;> rfl) | (simp [*, errW_none, errW_some] <;> rfl), by first | exact Kd.R_nil _ _ _ _ _ | exact Kd.N_nil _ _ _ _ _ | exact Kd.V_nil _ _ _ _ _ | exact Kd.Q_nil _ _ _ _ _ | exact Kd.S_nil _ _ _ _ _, uB1 HB GE101.out⟩

end Go.Proofs.Ytcklifkbodmoaaa.P
