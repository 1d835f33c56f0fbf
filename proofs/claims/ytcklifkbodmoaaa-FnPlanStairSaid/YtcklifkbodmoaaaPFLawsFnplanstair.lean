-- written for this claim by a program (wip/gen/myprint.py over the print tool). Not trusted: Lean checks it.
import Derived.Test.YtcklifkbodmoaaaPx0
import Derived.Test.YtcklifkbodmoaaaHUp
import Derived.Test.YtcklifkbodmoaaaPFImplPlanall
import Derived.Test.YtcklifkbodmoaaaPFSpecDrawplanstair
import Derived.Test.YtcklifkbodmoaaaPFImplPlanstair
import Derived.Test.YtcklifkbodmoaaaPFSpecPlanstair
import Derived.Test.YtcklifkbodmoaaaPFLawsWksteps
import Derived.Test.YtcklifkbodmoaaaGStair
namespace Go.Proofs.Ytcklifkbodmoaaa.P
open Go.RowKit Go.Proofs.YtcklifkbodmoaaaV.PrintWords Go.Proofs.YtcklifkbodmoaaaV.PrintLast
set_option linter.unusedVariables false
set_option linter.unusedSimpArgs false

/-! ### laws_FnPlanStair: function 14 -/
mutual
def laws_FnPlanStair.j0 : Nat → Int → Int → List (S66) → Bool → List (S66) → Bool → Bool → Int → Int → List (S32) → Option (Bool)
 | 0, _, _, _, _, _, _, _, _, _, _ => none
 | k + 1, x4, x5, x6, x7, x8, x9, x46, x109000, x109001, x109002 => if x46 = true then (if (x7 == x9) = true then ((laws_wkSteps.f k x6 x8).bind fun t118 => (some t118)) else (some false)) else (laws_FnPlanStair.l0 k x4 x5 x6 0 x109000 x109001 x109002)
def laws_FnPlanStair.l0 : Nat → Int → Int → List (S66) → Int → Int → Int → List (S32) → Option (Bool)
 | 0, _, _, _, _, _, _, _ => none
 | k + 1, x4, x5, x6, x10, x109000, x109001, x109002 => if x10 ≤ 199 then ((impl_StairAt.f k x6 x10).bind fun t120 => ((impl_PlanAll.f k x109000 x109001 x109002 x4 x10).bind fun t121 => (if 0 ≤ x5 then (if x5 < (t121.length : Int) then (if t120 = (rd t121 x5) then (laws_FnPlanStair.l0 k x4 x5 x6 (wrap64 (x10 + 3)) x109000 x109001 x109002) else (some false)) else (none)) else (none)))) else ((impl_StairOk.f k x6).bind fun t119 => (some t119))
end
def laws_FnPlanStair.f (k : Nat) (l0 : List Int) : Option (Bool) := if (l0.length : Int) > 1048576 then (some true) else ((spec_DrawPlanStair.f k l0).bind fun bt101 => ((impl_PlanStair.f k bt101.1 bt101.2.1 bt101.2.2.1 bt101.2.2.2.1 bt101.2.2.2.2).bind fun bt109 => ((spec_PlanStair.f k bt101.1 bt101.2.1 bt101.2.2.1 bt101.2.2.2.1 bt101.2.2.2.2).bind fun bt113 => (if (bt109.2 != bt113.2) = true then (laws_FnPlanStair.j0 k bt101.2.2.2.1 bt101.2.2.2.2 bt109.1 bt109.2 bt113.1 bt113.2 true bt101.1 bt101.2.1 bt101.2.2.1) else ((laws_wkSteps.f k bt109.1 bt113.1).bind fun t117 => (if t117 = true then (laws_FnPlanStair.j0 k bt101.2.2.2.1 bt101.2.2.2.2 bt109.1 bt109.2 bt113.1 bt113.2 (!bt109.2) bt101.1 bt101.2.1 bt101.2.2.1) else (laws_FnPlanStair.j0 k bt101.2.2.2.1 bt101.2.2.2.2 bt109.1 bt109.2 bt113.1 bt113.2 true bt101.1 bt101.2.1 bt101.2.2.1)))))))
def laws_FnPlanStair.T11 : Bool × List (List Nat × List Nat) := (true, [([], []), ([], []), ([0, 1], [0, 1]), ([], []), ([], []), ([], []), ([3, 4, 5, 2], [3, 4, 5]), ([], []), ([6, 7], [6, 7]), ([8], [8]), ([2, 9], [2, 9])])
def laws_FnPlanStair.B11 : List Nat := [0, 0, 3, 0, 0, 0, 63, 0, 255, 511, 1023]
theorem laws_FnPlanStair.tab11 : rtab .any (opsOf Try.f14 11) = laws_FnPlanStair.T11 := by kernel_rfl
theorem laws_FnPlanStair.bits11 : waitsOk laws_FnPlanStair.T11.2 laws_FnPlanStair.B11 = true := by kernel_rfl
set_option maxHeartbeats 8000000 in
set_option maxRecDepth 100000 in
theorem laws_FnPlanStair.calls (k : Nat) (A0 : Option Addr) (c0 : Nat) (l0 : List Int) (w : World) (hr0 : Kd.C (Kd.int .u8) w A0 l0.length l0) (hc0 : l0.length ≤ c0) (h : laws_FnPlanStair.f k l0 = some true) :
  Calls Try.prog 14 #[.slice A0 l0.length c0] w fun e w' => e = .returned (.bool true) ∧ Below w.heap.size w w' := by
 have hu25 := Try.underlying25
 have HR0 := Aside0.mk hr0
 have HC0 := Aside0.mk hc0
 clear hr0 hc0
 have HB := Aside0.mk (Below.refl w.heap.size w)
 have H : (if (l0.length : Int) > 1048576 then (some true) else ((spec_DrawPlanStair.f k l0).bind fun bt101 => ((impl_PlanStair.f k bt101.1 bt101.2.1 bt101.2.2.1 bt101.2.2.2.1 bt101.2.2.2.2).bind fun bt109 => ((spec_PlanStair.f k bt101.1 bt101.2.1 bt101.2.2.1 bt101.2.2.2.1 bt101.2.2.2.2).bind fun bt113 => (if (bt109.2 != bt113.2) = true then (laws_FnPlanStair.j0 k bt101.2.2.2.1 bt101.2.2.2.2 bt109.1 bt109.2 bt113.1 bt113.2 true bt101.1 bt101.2.1 bt101.2.2.1) else ((laws_wkSteps.f k bt109.1 bt113.1).bind fun t117 => (if t117 = true then (laws_FnPlanStair.j0 k bt101.2.2.2.1 bt101.2.2.2.2 bt109.1 bt109.2 bt113.1 bt113.2 (!bt109.2) bt101.1 bt101.2.1 bt101.2.2.1) else (laws_FnPlanStair.j0 k bt101.2.2.2.1 bt101.2.2.2.2 bt109.1 bt109.2 bt113.1 bt113.2 true bt101.1 bt101.2.1 bt101.2.2.1)))))))) = some true := h
 clear h
 by_cases c2 : (l0.length : Int) > 1048576
 ·
  rw [if_pos c2] at H; have c2b0 := dl c2; have c2b1 : decide (1048576 < l0.length) = true := decide_eq_true (by omega); clear c2; clear H; go_enter Try.func14, Try.ntmps14; go_wp2; go_ret; exact ⟨by first | rfl | (simp [errW_none, errW_some] <;> rfl) | (simp [*, errW_none, errW_some] <;> rfl) | exact congrArg (fun b_ => Ending.returned (Value.bool b_)) HE_.out, uB0 HB⟩
 ·
  rw [if_neg c2] at H; have c2b0 := DL c2; have c2b1 : decide (1048576 < l0.length) = false := decide_eq_false (by omega); clear c2; replace H := Option.bind_eq_some_iff.mp H; obtain ⟨⟨t101, t102, t103, t106, t107⟩, A30, H⟩ := H; replace H : ((impl_PlanStair.f k t101 t102 t103 t106 t107).bind fun bt109 => ((spec_PlanStair.f k t101 t102 t103 t106 t107).bind fun bt113 => (if (bt109.2 != bt113.2) = true then (laws_FnPlanStair.j0 k t106 t107 bt109.1 bt109.2 bt113.1 bt113.2 true t101 t102 t103) else ((laws_wkSteps.f k bt109.1 bt113.1).bind fun t117 => (if t117 = true then (laws_FnPlanStair.j0 k t106 t107 bt109.1 bt109.2 bt113.1 bt113.2 (!bt109.2) t101 t102 t103) else (laws_FnPlanStair.j0 k t106 t107 bt109.1 bt109.2 bt113.1 bt113.2 true t101 t102 t103)))))) = some true := H; have A3 := Aside0.mk A30; clear A30; replace H := Option.bind_eq_some_iff.mp H; obtain ⟨⟨t109, t112⟩, A40, H⟩ := H; replace H : ((spec_PlanStair.f k t101 t102 t103 t106 t107).bind fun bt113 => (if (t112 != bt113.2) = true then (laws_FnPlanStair.j0 k t106 t107 t109 t112 bt113.1 bt113.2 true t101 t102 t103) else ((laws_wkSteps.f k t109 bt113.1).bind fun t117 => (if t117 = true then (laws_FnPlanStair.j0 k t106 t107 t109 t112 bt113.1 bt113.2 (!t112) t101 t102 t103) else (laws_FnPlanStair.j0 k t106 t107 t109 t112 bt113.1 bt113.2 true t101 t102 t103))))) = some true := H; have A4 := Aside0.mk A40; clear A40; replace H := Option.bind_eq_some_iff.mp H; obtain ⟨⟨t113, t116⟩, A50, H⟩ := H; replace H : (if (t112 != t116) = true then (laws_FnPlanStair.j0 k t106 t107 t109 t112 t113 t116 true t101 t102 t103) else ((laws_wkSteps.f k t109 t113).bind fun t117 => (if t117 = true then (laws_FnPlanStair.j0 k t106 t107 t109 t112 t113 t116 (!t112) t101 t102 t103) else (laws_FnPlanStair.j0 k t106 t107 t109 t112 t113 t116 true t101 t102 t103)))) = some true := H; have A5 := Aside0.mk A50; clear A50; have HC6 := Aside0.mk H; clear H; go_enter Try.func14, Try.ntmps14; go_upto_region 6 with (first | ((with_reducible refine gate_callee (f := 48) rfl ?_); refine goesL_ (some 16) rfl rfl Try.func48 (by kernel_rfl) rfl #[.slice A0 l0.length c0] rfl ul ?_; (with_reducible refine (spec_DrawPlanStair.calls k _ _ l0 t101 t102 t103 t106 t107 _ ?side1 ?side2 A3.out).mono ?_); (case side1 => repeat (first | exact HR0.out | (with_reducible refine Kd.C_alloc ?_ _) | (with_reducible refine Kd.C_drewN ?_ _) | (with_reducible refine Kd.C_drew ?_))); (case side2 => exact HC0.out); rintro e w7 ⟨v104, rfl, ho0, hb⟩; refine ⟨_, rfl, ?_⟩; have HO105 := Aside0.mk (Kd.R_lower ho0 (below_size (uB0 HB))); replace HB := Aside0.mk (below_step (uB0 HB) hb); (try clear hb); (try clear hb2); (try clear hk); (try clear hi); (try clear ho0)) | ((with_reducible refine gate_dst (N := 3) rfl ?_); refine be (cs := #[.int .i64 0, .int .i64 0, .slice none 0 0]) (t := 25) ?_; intro gb108 hg w8 hbox hb; replace HO105 := Aside0.mk (Kd.R_below (ur HO105) hb); have BK108 := Aside0.mk (hbox); have GW108 := gz w hg (uB0 HB); have GE108 := gz w hg (uB0 HB); replace HB := Aside0.mk (below_step (uB0 HB) hb); clear hb hbox hg; obtain ⟨hcz9_0, hcz9_1, hcz9_2, hfz9_0, hfz9_1, hfz9_2⟩ := bc3 BK108; obtain ⟨Ao10, co10, eo10⟩ := Kd.R_slice HO105.out; subst eo10) | ((with_reducible refine gate_callee (f := 49) rfl ?_); refine goesL_ (some 24) rfl rfl Try.func49 (by kernel_rfl) rfl #[.agg #[.int .i64 t101, .int .i64 t102, .slice Ao10 t103.length co10], .int .i64 t106, .int .i64 t107] rfl ul ?_; (with_reducible refine (impl_PlanStair.calls k t101 t102 _ _ t103 t106 t107 t109 t112 _ ?side1 ?side2 A4.out).mono ?_); (case side1 => refine (Kd.R_reads' (e := 32) (base := w.heap.size) (ok := fun k_ => True) (n := t103.length) (c := co10) ?_).2.2; exact (by (with_reducible repeat (first | apply Kd.R_alloc | apply Kd.R_drewN | apply Kd.R_drew)); exact (Kd.R_mono (rf3 HO105 BK108) (fun _ h_ => h_.1)))); (case side2 => exact (Kd.R_reads' HO105.out).2.1); rintro e w11 ⟨v110, rfl, ho0, hb⟩; refine ⟨_, rfl, ?_⟩; replace HO105 := Aside0.mk (Kd.R_below (by (with_reducible repeat (first | apply Kd.R_alloc | apply Kd.R_drewN | apply Kd.R_drew)); exact (Kd.R_mono (rf3 HO105 BK108) (fun _ h_ => h_.1))) hb); have HO111 := Aside0.mk (Kd.R_lower ho0 (below_size (uB1 HB GE108.out))); replace BK108 := Aside0.mk (blk_below (g := gb108) (o := .cells #[.int .i64 t101, .int .i64 t102, .slice Ao10 t103.length co10] 25 (0, 0)) (by (with_reducible repeat first | apply zbn | apply zbd | apply zba); refine pu3 (.int .i64 0) (.int .i64 0) (.slice none 0 0) ?_; exact ub BK108) hb); replace HB := Aside0.mk (below_step (uB1 HB GE108.out) hb); (try clear hb); (try clear hb2); (try clear hk); (try clear hi); (try clear ho0); obtain ⟨hcz12_0, hcz12_1, hcz12_2, hfz12_0, hfz12_1, hfz12_2⟩ := bc3 BK108) | ((with_reducible refine gate_callee (f := 50) rfl ?_); refine goesL_ (some 31) rfl rfl Try.func50 (by kernel_rfl) rfl #[.agg #[.int .i64 t101, .int .i64 t102, .slice Ao10 t103.length co10], .int .i64 t106, .int .i64 t107] rfl ul ?_; (with_reducible refine (spec_PlanStair.calls k t101 t102 _ _ t103 t106 t107 t113 t116 _ ?side1 ?side2 A5.out).mono ?_); (case side1 => exact uD (Kd.R_reads' HO105.out).2.2); (case side2 => exact (Kd.R_reads' HO105.out).2.1); rintro e w13 ⟨v114, rfl, ho0, hb⟩; refine ⟨_, rfl, ?_⟩; replace HO105 := Aside0.mk (Kd.R_below (ur HO105) hb); have HO115 := Aside0.mk (Kd.R_lower (Kd.R_new' ho0 (Kd.R_lt (ur HO111))) (below_size (uB1 HB GE108.out))); replace HO111 := Aside0.mk (Kd.R_elder' (ur HO111) (Kd.R_base ho0) hb); replace BK108 := bb BK108 hb; replace HB := Aside0.mk (below_step (uB1 HB GE108.out) hb); (try clear hb); (try clear hb2); (try clear hk); (try clear hi); (try clear ho0)))
  (try simp only [Act.put, List.setIfInBounds_toArray, List.set_cons_zero, List.set_cons_succ]); go_cut [46] (fun v46 wc => ∃ (kq : Nat) (x46_5 : Bool), v46 = .bool x46_5 ∧ Aside0 (laws_FnPlanStair.j0 kq t106 t107 t109 t112 t113 t116 x46_5 t101 t102 t103 = some true) ∧ Aside0 (kq ≤ k) ∧ Aside0 (Kd.R k66 66 wc w.heap.size (fun k_ => some k_ ≠ (v114 : Value).ownBlock) v110 t109) ∧ Aside0 (Kd.R k66 66 wc w.heap.size (fun k_ => some k_ ≠ (v110 : Value).ownBlock) v114 t113) ∧ Aside0 (Kd.R k32 32 wc w.heap.size (fun _ => True) (.slice Ao10 t103.length co10) t103) ∧ Aside0 (wc.heap[gb108]? = some (.cells #[.int .i64 t101, .int .i64 t102, (.slice Ao10 t103.length co10)] 25 (0, 0))) ∧ Aside0 (Below w.heap.size w wc))
  case first =>
   have H := HC6.out; clear HC6; by_cases c14 : (t112 != t116) = true
   ·
    rw [if_pos c14] at H; have c14b0 : (t112 != t116) = true := c14; (try (have c14b1 : decide (t112 = t116) = false := by simpa using c14)); (try (have c14b2 : (t112 == t116) = false := by simpa using c14)); (try (have c14b3 : ¬ (t112 = t116) := by simpa using c14)); clear c14; (first | rw [c14b0] | (simp only [i64_w, i32_w]; rw [c14b0]) | skip); have H' := Aside0.mk H; clear H; go_wp2; go_meet
    case rel => exact ⟨_, (true), ue, H', ⟨by first | omega | exact Nat.le_refl _⟩, ⟨by (with_reducible repeat (first | apply Kd.R_alloc | apply Kd.R_drewN | apply Kd.R_drew)); exact Kd.R_mono HO111.out (fun _ hk => hk.2)⟩, ⟨by (with_reducible repeat (first | apply Kd.R_alloc | apply Kd.R_drewN | apply Kd.R_drew)); exact Kd.R_mono HO115.out (fun _ hk => hk.2)⟩, ⟨ur HO105⟩, ⟨ub BK108⟩, ⟨uB1 HB GE108.out⟩⟩
   ·
    rw [if_neg c14] at H; have c14b0 : (t112 != t116) = false := by simpa using c14
    (try (have c14b1 : decide (t112 = t116) = true := by simpa using c14)); (try (have c14b2 : (t112 == t116) = true := by simpa using c14)); clear c14; (first | rw [c14b0] | (simp only [i64_w, i32_w]; rw [c14b0]) | skip); replace H := Option.bind_eq_some_iff.mp H; obtain ⟨t117, A150, H⟩ := H; replace H : (if t117 = true then (laws_FnPlanStair.j0 k t106 t107 t109 t112 t113 t116 (!t112) t101 t102 t103) else (laws_FnPlanStair.j0 k t106 t107 t109 t112 t113 t116 true t101 t102 t103)) = some true := H; have A15 := Aside0.mk A150; clear A150; by_cases c16 : t117 = true
    ·
     subst c16; rw [if_pos rfl] at H; have H' := Aside0.mk H; clear H; obtain ⟨Ao17, co17, eo17⟩ := Kd.R_slice HO111.out; subst eo17; obtain ⟨Ao18, co18, eo18⟩ := Kd.R_slice HO115.out; subst eo18; go_wp2_with (first | (go_at_call 51; (with_reducible refine (laws_wkSteps.calls k _ _ t109 _ _ t113 true _ ?side1 ?side2 ?side3 ?side4 A15.out).mono ?_); (case side1 => exact uD (Kd.R_reads' HO111.out).2.2); (case side2 => exact (Kd.R_reads' HO111.out).2.1); (case side3 => exact uD (Kd.R_reads' HO115.out).2.2); (case side4 => exact (Kd.R_reads' HO115.out).2.1); rintro e w' ⟨rfl, ⟨nd, rfl⟩⟩)); go_meet
     case rel => exact ⟨_, (!t112), ue, H', ⟨by first | omega | exact Nat.le_refl _⟩, ⟨by (with_reducible repeat (first | apply Kd.R_alloc | apply Kd.R_drewN | apply Kd.R_drew)); exact Kd.R_mono HO111.out (fun _ hk => hk.2)⟩, ⟨by (with_reducible repeat (first | apply Kd.R_alloc | apply Kd.R_drewN | apply Kd.R_drew)); exact Kd.R_mono HO115.out (fun _ hk => hk.2)⟩, ⟨ur HO105⟩, ⟨ub BK108⟩, ⟨uB1 HB GE108.out⟩⟩
    ·
     replace c16 := Bool.eq_false_iff.mpr c16; subst c16; rw [if_neg (show ¬ (false = true) by decide)] at H; have H' := Aside0.mk H; clear H; obtain ⟨Ao19, co19, eo19⟩ := Kd.R_slice HO111.out; subst eo19; obtain ⟨Ao20, co20, eo20⟩ := Kd.R_slice HO115.out; subst eo20; go_wp2_with (first | (go_at_call 51; (with_reducible refine (laws_wkSteps.calls k _ _ t109 _ _ t113 false _ ?side1 ?side2 ?side3 ?side4 A15.out).mono ?_); (case side1 => exact uD (Kd.R_reads' HO111.out).2.2); (case side2 => exact (Kd.R_reads' HO111.out).2.1); (case side3 => exact uD (Kd.R_reads' HO115.out).2.2); (case side4 => exact (Kd.R_reads' HO115.out).2.1); rintro e w' ⟨rfl, ⟨nd, rfl⟩⟩)); go_meet
     case rel => exact ⟨_, (true), ue, H', ⟨by first | omega | exact Nat.le_refl _⟩, ⟨by (with_reducible repeat (first | apply Kd.R_alloc | apply Kd.R_drewN | apply Kd.R_drew)); exact Kd.R_mono HO111.out (fun _ hk => hk.2)⟩, ⟨by (with_reducible repeat (first | apply Kd.R_alloc | apply Kd.R_drewN | apply Kd.R_drew)); exact Kd.R_mono HO115.out (fun _ hk => hk.2)⟩, ⟨ur HO105⟩, ⟨ub BK108⟩, ⟨uB1 HB GE108.out⟩⟩
  case rest =>
   clear HC6; try clear c1
   try clear c2
   try clear c2b0
   try clear c2b1
   try clear p2
   try clear c4
   try clear c5
   try clear c14
   try clear c14b0
   try clear c14b1
   try clear c14b2
   try clear c16
   try clear hcz12_0 hcz12_1 hcz12_2
   try clear hcz9_0 hcz9_1 hcz9_2
   try clear hfz12_0 hfz12_1 hfz12_2
   try clear hfz9_0 hfz9_1 hfz9_2
   obtain ⟨kq, x46_5, rfl, HA, HJ5, HO_6, HO_8, HO_109002, BK108, HB⟩ := hcut
   cases kq with
   | zero => exact absurd HA.out (by simp [laws_FnPlanStair.j0])
   | succ kj5 =>
    have H := HA.out; clear HA; simp only [laws_FnPlanStair.j0] at H; by_cases c21 : x46_5 = true
    ·
     subst c21; rw [if_pos rfl] at H; by_cases c22 : (t112 == t116) = true
     ·
      rw [if_pos c22] at H; have c22b0 : (t112 == t116) = true := c22; (try (have c22b1 : decide (t112 = t116) = true := by simpa using c22)); (try (have c22b2 : (t112 == t116) = true := by simpa using c22)); clear c22; replace H := Option.bind_eq_some_iff.mp H; obtain ⟨t118, A230, H⟩ := H; replace H : (some t118) = some true := H; have A23 := Aside0.mk A230; clear A230; have HE_ := Aside0.mk (Option.some.inj H); clear H; obtain ⟨Ao24, co24, eo24⟩ := Kd.R_slice HO_6.out; subst eo24; obtain ⟨Ao25, co25, eo25⟩ := Kd.R_slice HO_8.out; subst eo25; go_wp2_with (first | (go_at_call 51; (with_reducible refine (laws_wkSteps.calls kj5 _ _ t109 _ _ t113 t118 _ ?side1 ?side2 ?side3 ?side4 A23.out).mono ?_); (case side1 => exact uD (Kd.R_reads' HO_6.out).2.2); (case side2 => exact (Kd.R_reads' HO_6.out).2.1); (case side3 => exact uD (Kd.R_reads' HO_8.out).2.2); (case side4 => exact (Kd.R_reads' HO_8.out).2.1); rintro e w' ⟨rfl, ⟨nd, rfl⟩⟩)); go_ret; exact ⟨by first | rfl | (simp [errW_none, errW_some] <;> rfl) | (simp [*, errW_none, errW_some] <;> rfl) | exact congrArg (fun b_ => Ending.returned (Value.bool b_)) HE_.out, uB1 HB GE108.out⟩
     ·
      rw [if_neg c22] at H; have c22b0 : (t112 == t116) = false := by simpa using c22
      (try (have c22b1 : decide (t112 = t116) = false := by simpa using c22)); (try (have c22b2 : (t112 == t116) = false := by simpa using c22)); (try (have c22b3 : ¬ (t112 = t116) := by simpa using c22)); clear c22; exact absurd H (by simp)
    ·
     replace c21 := Bool.eq_false_iff.mpr c21; subst c21; rw [if_neg (show ¬ (false = true) by decide)] at H; have H' := Aside0.mk H; clear H; go_wp2; go_loopg [10] kj5 (fun kq v10 w' => ∃ (x10_2 : Int), v10 = .int .i64 x10_2 ∧ Aside0 (laws_FnPlanStair.l0 kq t106 t107 t109 x10_2 t101 t102 t103 = some true) ∧ Aside0 (kq ≤ kj5) ∧ Aside0 (Kd.R k66 66 w' w.heap.size (fun _ => True) v110 t109) ∧ Aside0 (Kd.R k32 32 w' w.heap.size (fun _ => True) (.slice Ao10 t103.length co10) t103) ∧ Aside0 (w'.heap[gb108]? = some (.cells #[.int .i64 t101, .int .i64 t102, (.slice Ao10 t103.length co10)] 25 (0, 0))) ∧ Aside0 (Below w.heap.size w w'))
     case atStart => exact ⟨(0), ue, H', ⟨Nat.le_refl _⟩, ⟨by (with_reducible repeat (first | apply Kd.R_alloc | apply Kd.R_drewN | apply Kd.R_drew)); exact Kd.R_mono HO_6.out (fun _ hk => trivial)⟩, ⟨ur HO_109002⟩, ⟨ub BK108⟩, ⟨uB1 HB GE108.out⟩⟩
     case round =>
      clear H'; try clear c1
      try clear c2
      try clear c2b0
      try clear c2b1
      try clear p2
      try clear c4
      try clear c5
      try clear c14
      try clear c14b0
      try clear c14b1
      try clear c14b2
      try clear c16
      try clear c21
      try clear c22
      try clear c22b0
      try clear c22b1
      try clear c22b2
      try clear hcz12_0 hcz12_1 hcz12_2
      try clear hcz9_0 hcz9_1 hcz9_2
      try clear hfz12_0 hfz12_1 hfz12_2
      try clear hfz9_0 hfz9_1 hfz9_2
      try clear p2
      obtain ⟨x10_2, rfl, HA, HK2, HO_6, HO_109002, BK108, HB⟩ := hrel
      cases gk with
      | zero => exact absurd HA.out (by simp [laws_FnPlanStair.l0])
      | succ k2 =>
       have H := HA.out; clear HA; simp only [laws_FnPlanStair.l0] at H; by_cases c26 : x10_2 ≤ 199
       ·
        rw [if_pos c26] at H; have c26b0 := de c26; clear c26; replace H := Option.bind_eq_some_iff.mp H; obtain ⟨t120, A270, H⟩ := H; replace H : ((impl_PlanAll.f k2 t101 t102 t103 t106 x10_2).bind fun t121 => (if 0 ≤ t107 then (if t107 < (t121.length : Int) then (if t120 = (rd t121 t107) then (laws_FnPlanStair.l0 k2 t106 t107 t109 (wrap64 (x10_2 + 3)) t101 t102 t103) else (some false)) else (none)) else (none))) = some true := H; have A27 := Aside0.mk A270; clear A270; replace H := Option.bind_eq_some_iff.mp H; obtain ⟨t121, A280, H⟩ := H; replace H : (if 0 ≤ t107 then (if t107 < (t121.length : Int) then (if t120 = (rd t121 t107) then (laws_FnPlanStair.l0 k2 t106 t107 t109 (wrap64 (x10_2 + 3)) t101 t102 t103) else (some false)) else (none)) else (none)) = some true := H; have A28 := Aside0.mk A280; clear A280; by_cases c29 : 0 ≤ t107
        ·
         rw [if_pos c29] at H; have c29b0 := de c29; clear c29; by_cases c30 : t107 < (t121.length : Int)
         ·
          rw [if_pos c30] at H; have c30b0 := dl c30; clear c30; by_cases c31 : t120 = (rd t121 t107)
          ·
           rw [if_pos c31] at H; obtain ⟨c31b0, c31b1⟩ := dq c31; clear c31; have H' := Aside0.mk H; clear H; try go_wp2
           have pi124 : (0 ≤ (t107 : Int)) = True := eq_true (ua); have qi124 : (t107 < (t121.length : Int)) = True := eq_true (ua); replace HO_6 := Aside0.mk (Kd.R_drew HO_6.out); replace HO_109002 := Aside0.mk (Kd.R_drew HO_109002.out); replace BK108 := Aside0.mk (blk_drew BK108.out); replace HB := Aside0.mk (below_drew1 HB.out); obtain ⟨Ao33, co33, eo33⟩ := Kd.R_slice HO_6.out; (first | subst eo33 | (injection eo33 with f1_ f2_ f3_; have f4_ := f1_.symm; have f5_ := f3_.symm; clear f1_ f2_ f3_; subst f4_; subst f5_)); refine start_ (n := 11) (S := fun w' => w'.cell? ⟨gb108, 0, none⟩ = some (.int .i64 t101) ∧ w'.cell? ⟨gb108, 1, none⟩ = some (.int .i64 t102) ∧ w'.cell? ⟨gb108, 2, none⟩ = some (.slice Ao10 t103.length co10)) (ds := []) (zt 11 0) (by kernel_rfl) rfl (by kernel_rfl) (b3_ BK108) (fun hHeld => ?_); refine with_tabW laws_FnPlanStair.tab11 laws_FnPlanStair.bits11 (fun HT_ HW_ => ?_); generalize wr.drew = w32 at HO_6 HO_109002 BK108 HB hHeld ⊢; refine qz HT_ 0 ?_; refine qz HT_ 1 ?_; refine qz HT_ 4 ?_; refine qz HT_ 5 ?_; refine qz HT_ 7 ?_; refine qt HT_ HW_ hHeld 3 ?_; refine qo HT_ 2 (fun K hK => ?_); refine goes_ Try.func52 (by kernel_rfl) rfl #[.slice Ao33 t109.length co33, .int .i64 x10_2] (by rfl) rfl rfl ul ?_; with_reducible refine (impl_StairAt.calls k2 _ _ t109 x10_2 t120 _ ?side1 ?side2 A27.out).mono ?_
           (case side1 => exact uD (Kd.R_reads' HO_6.out).2.2); (case side2 => exact (Kd.R_reads' HO_6.out).2.1); rintro e w34 ⟨rfl, hb⟩; refine ⟨_, rfl, ?_⟩; replace HO_6 := Aside0.mk (Kd.R_below (ur HO_6) hb); replace HO_109002 := Aside0.mk (Kd.R_below (ur HO_109002) hb); replace BK108 := bb BK108 hb; replace HB := Aside0.mk (below_step (uB1 HB GE108.out) hb); (try clear hb); (try clear hb2); (try clear hk); (try clear hi); refine hK.out _ _ (b3_ BK108) (fun hHeld => ?_); clear hK K; refine nz ?_
           refine qo HT_ 6 (fun K hK => ?_); refine goes_ Try.func18 (by kernel_rfl) rfl #[.agg #[.int .i64 t101, .int .i64 t102, .slice Ao10 t103.length co10], .int .i64 t106, .int .i64 x10_2] (by rfl) rfl rfl ul ?_; with_reducible refine (impl_PlanAll.calls k2 t101 t102 _ _ t103 t106 x10_2 t121 _ ?side1 ?side2 A28.out).mono ?_
           (case side1 => exact uD (Kd.R_reads' HO_109002.out).2.2); (case side2 => exact (Kd.R_reads' HO_109002.out).2.1); rintro e w35 ⟨v122, rfl, ho0, hb⟩; refine ⟨_, rfl, ?_⟩; replace HO_6 := Aside0.mk (Kd.R_below (ur HO_6) hb); replace HO_109002 := Aside0.mk (Kd.R_below (ur HO_109002) hb); have HO123 := Aside0.mk (Kd.R_lower ho0 (below_size (uB1 HB GE108.out))); replace BK108 := bb BK108 hb; replace HB := Aside0.mk (below_step (uB1 HB GE108.out) hb); (try clear hb); (try clear hb2); (try clear hk); (try clear hi); (try clear ho0); obtain ⟨Ao36, co36, eo36⟩ := Kd.R_slice HO123.out; subst eo36; obtain ⟨ado36, fo36, _⟩ := Kd.at_int (Kd.R_reads' HO123.out).2.2 0 (by decide) (by have h1_ := of_eq_true pi124; have h2_ := of_eq_true qi124; omega)
           cases fo36
           refine hK.out _ _ (b3_ BK108) (fun hHeld => ?_); clear hK K; refine nz ?_
           refine qz HT_ 8 ?_; refine qo HT_ 9 (fun K hK => ?_); (have p124 : 0 ≤ (t107 : Int) := ua; have q124 : t107 < (t121.length : Int) := ua; obtain ⟨ad124, e124, hx124_0⟩ := Kd.at_int (Kd.R_reads' HO123.out).2.2 t107 p124 q124; obtain rfl : ado36 = ad124 := (by injection e124)); refine value_ (w1 := ?_) (v := ?_) (by rfl) rfl ?_ ?_; rotate_left 2
           ·
            go_simp
            constructor
            ·
             rfl
            ·
             rfl
           clear hx124_0; refine hK.out _ _ (b3_ BK108) (fun hHeld => ?_); clear hK K; refine nz ?_
           refine qz HT_ 10 ?_; refine done_ (done_of HT_.out (by kernel_rfl)) ?_; try go_wp2
           go_roundg k2
           case measure => have := HJ5.out; have := HK2.out; omega
           case rel => exact ⟨(wrap64 (x10_2 + 3)), ue, H', ⟨by have := HJ5.out; have := HK2.out; omega⟩, ⟨ur HO_6⟩, ⟨ur HO_109002⟩, ⟨ub BK108⟩, ⟨uB1 HB GE108.out⟩⟩
          ·
           rw [if_neg c31] at H; obtain ⟨c31b0, c31b1⟩ := dQ c31; exact absurd H (by simp)
         ·
          rw [if_neg c30] at H; exact absurd H (by simp)
        ·
         rw [if_neg c29] at H; exact absurd H (by simp)
       ·
        rw [if_neg c26] at H; have c26b0 := DE c26; clear c26; replace H := Option.bind_eq_some_iff.mp H; obtain ⟨t119, A370, H⟩ := H; replace H : (some t119) = some true := H; have A37 := Aside0.mk A370; clear A370; have HE_ := Aside0.mk (Option.some.inj H); clear H; obtain ⟨Ao38, co38, eo38⟩ := Kd.R_slice HO_6.out; subst eo38; go_wp2_with (first | ((with_reducible refine gate_callee (f := 53) rfl ?_); refine goesL_ (some 71) rfl rfl Try.func53 (by kernel_rfl) rfl #[.slice Ao38 t109.length co38] rfl ul ?_; (with_reducible refine (impl_StairOk.calls k2 _ _ t109 t119 _ ?side1 ?side2 A37.out).mono ?_); (case side1 => exact uD (Kd.R_reads' HO_6.out).2.2); (case side2 => exact (Kd.R_reads' HO_6.out).2.1); rintro e w39 ⟨rfl, hb⟩; refine ⟨_, rfl, ?_⟩; replace HO_6 := Aside0.mk (Kd.R_below (ur HO_6) hb); replace HO_109002 := Aside0.mk (Kd.R_below (ur HO_109002) hb); replace BK108 := bb BK108 hb; replace HB := Aside0.mk (below_step (uB1 HB GE108.out) hb); (try clear hb); (try clear hb2); (try clear hk); (try clear hi))); go_ret; exact ⟨by first | rfl | (simp [errW_none, errW_some] <;> rfl) | (simp [*, errW_none, errW_some] <;> rfl) | exact congrArg (fun b_ => Ending.returned (Value.bool b_)) HE_.out, uB1 HB GE108.out⟩

/-- THE ONE PURE STATEMENT of laws_FnPlanStair: yours. -/
def laws_FnPlanStair.Pure : Prop := ∀ (l0 : List Int), l0.length ≤ maxLen → l0.length * 1 ≤ 140737488351232 → (∀ x ∈ l0, (Lit.int .u8 x).wf = true) → ∃ k, laws_FnPlanStair.f k l0 = some true
theorem laws_FnPlanStair.walk (P : laws_FnPlanStair.Pure) (a0 : Option Addr) (len0 cap0 : Nat) (z0 : List Int) (w : World) (w0 : (a0 = none ∧ len0 = 0 ∧ cap0 = 0 ∧ z0 = []) ∨ ∃ x, a0 = some x ∧ len0 ≤ cap0 ∧ cap0 ≤ maxLen ∧ z0.length = cap0 ∧ (∀ i, i < z0.length → w.cell? (x.add i) = some (.int .u8 (z0.getD i 0))) ∧ ∀ n ∈ z0, (Lit.int .u8 n).wf = true) (y0 : len0 * 1 ≤ 140737488351232) :
  Calls Try.prog 14 #[.slice a0 len0 cap0] w fun e w' => e = .returned (.bool true) ∧ Below w.heap.size w w' := by
 obtain ⟨l0, rfl, hr0, hm0, hw0, hc0⟩ := ReadsInt.ofRowC w0
 obtain ⟨k, h⟩ := P l0 hm0 y0 hw0
 refine (laws_FnPlanStair.calls k _ _ l0 w (Kd.C_of_reads (d := (0 : Int)) (h1 := fun _ => rfl) hr0) hc0 h).mono ?_
 rintro e w' ⟨rfl, hd⟩
 exact ⟨rfl, hd⟩

end Go.Proofs.Ytcklifkbodmoaaa.P
