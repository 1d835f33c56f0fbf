-- written for this claim by a program (wip/gen/myprint.py over the print tool). Not trusted: Lean checks it.
import Derived.Test.YtcklifkbodmoaaaPx0
import Derived.Test.YtcklifkbodmoaaaHUp
import Derived.Test.YtcklifkbodmoaaaPFSpecDrawplanall
import Derived.Test.YtcklifkbodmoaaaGPBase
import Derived.Test.YtcklifkbodmoaaaPFImplPlanall
import Derived.Test.YtcklifkbodmoaaaGWk
import Derived.Test.YtcklifkbodmoaaaPFSpecPlanall
import Derived.Test.YtcklifkbodmoaaaPFSpecPlanok
namespace Go.Proofs.Ytcklifkbodmoaaa.P
open Go.RowKit Go.Proofs.YtcklifkbodmoaaaV.PrintWords Go.Proofs.YtcklifkbodmoaaaV.PrintLast
set_option linter.unusedVariables false
set_option linter.unusedSimpArgs false

/-! ### laws_FnPlanAll: function 5 -/
mutual
def laws_FnPlanAll.j0 : Nat → Int → Int → List Int → Bool → Int → Int → List (S32) → Option (Bool)
 | 0, _, _, _, _, _, _, _ => none
 | k + 1, x4, x5, x6, x43, x109000, x109001, x109002 => if x43 = true then ((spec_PlanAll.f k x109000 x109001 x109002 x4 x5).bind fun t118 => ((laws_wkInts.f k x6 t118).bind fun t121 => (if t121 = true then ((impl_PlanOk.f k x109000 x109001 x109002).bind fun t122 => ((spec_PlanOk.f k x109000 x109001 x109002).bind fun t123 => (some (t122 == t123)))) else (some false)))) else (laws_FnPlanAll.l0 k x4 x5 x6 0 x109000 x109001 x109002)
def laws_FnPlanAll.l0 : Nat → Int → Int → List Int → Int → Int → Int → List (S32) → Option (Bool)
 | 0, _, _, _, _, _, _, _ => none
 | k + 1, x4, x5, x6, x7, x109000, x109001, x109002 => if x7 < x109000 then (if 0 ≤ x7 then (if x7 < (x6.length : Int) then (if (rd x6 x7) = 99999 then (laws_FnPlanAll.j2 k x4 x5 x6 x7 true x109000 x109001 x109002) else (laws_FnPlanAll.j2 k x4 x5 x6 x7 (x7 == x4) x109000 x109001 x109002)) else (none)) else (none)) else ((impl_PlanAll.f k x109000 x109001 x109002 x4 (wrap64 (x5 + 1))).bind fun t129 => (laws_FnPlanAll.l2 k x4 x5 x6 t129 0))
def laws_FnPlanAll.j2 : Nat → Int → Int → List Int → Int → Bool → Int → Int → List (S32) → Option (Bool)
 | 0, _, _, _, _, _, _, _, _ => none
 | k + 1, x4, x5, x6, x7, x8, x109000, x109001, x109002 => laws_FnPlanAll.l1 k x4 x5 x6 x7 x8 0 x109000 x109001 x109002
def laws_FnPlanAll.l1 : Nat → Int → Int → List Int → Int → Bool → Int → Int → Int → List (S32) → Option (Bool)
 | 0, _, _, _, _, _, _, _, _, _ => none
 | k + 1, x4, x5, x6, x7, x8, x9, x109000, x109001, x109002 => if x9 < (x109002.length : Int) then (if x8 = true then (laws_FnPlanAll.l1 k x4 x5 x6 x7 true (wrap64 (x9 + 1)) x109000 x109001 x109002) else (if 0 ≤ x9 then (if ((rd_T32 x109002 x9).f1) = x7 then (if 0 ≤ x7 then (if x7 < (x6.length : Int) then (laws_FnPlanAll.l1 k x4 x5 x6 x7 (((rd_T32 x109002 x9).f3) == (rd x6 x7)) (wrap64 (x9 + 1)) x109000 x109001 x109002) else (none)) else (none)) else (laws_FnPlanAll.l1 k x4 x5 x6 x7 false (wrap64 (x9 + 1)) x109000 x109001 x109002)) else (none))) else (if x8 = true then (if 0 ≤ x7 then (if x7 < (x6.length : Int) then (if (rd x6 x7) < x5 then (some false) else (laws_FnPlanAll.l0 k x4 x5 x6 (wrap64 (x7 + 1)) x109000 x109001 x109002)) else (none)) else (none)) else (some false))
def laws_FnPlanAll.l2 : Nat → Int → Int → List Int → List Int → Int → Option (Bool)
 | 0, _, _, _, _, _ => none
 | k + 1, x4, x5, x6, x10, x11 => if x11 < (x10.length : Int) then (if 0 ≤ x11 then (if x11 < (x6.length : Int) then (if (rd x10 x11) < (rd x6 x11) then (some false) else (laws_FnPlanAll.l2 k x4 x5 x6 x10 (wrap64 (x11 + 1)))) else (none)) else (none)) else (if 0 ≤ x4 then (if x4 < (x6.length : Int) then (some ((rd x6 x4) == x5)) else (none)) else (none))
end
def laws_FnPlanAll.f (k : Nat) (l0 : List Int) : Option (Bool) := if (l0.length : Int) > 1048576 then (some true) else ((spec_DrawPlanAll.f k l0).bind fun bt101 => ((impl_PlanAll.f k bt101.1 bt101.2.1 bt101.2.2.1 bt101.2.2.2.1 bt101.2.2.2.2).bind fun t109 => ((spec_PlanAll.f k bt101.1 bt101.2.1 bt101.2.2.1 bt101.2.2.2.1 bt101.2.2.2.2).bind fun t112 => ((laws_wkInts.f k t109 t112).bind fun t115 => (if t115 = true then ((impl_PlanOk.f k bt101.1 bt101.2.1 bt101.2.2.1).bind fun t116 => ((spec_PlanOk.f k bt101.1 bt101.2.1 bt101.2.2.1).bind fun t117 => (if (t116 != t117) = true then (laws_FnPlanAll.j0 k bt101.2.2.2.1 bt101.2.2.2.2 t109 true bt101.1 bt101.2.1 bt101.2.2.1) else (laws_FnPlanAll.j0 k bt101.2.2.2.1 bt101.2.2.2.2 t109 ((t109.length : Int) == 0) bt101.1 bt101.2.1 bt101.2.2.1)))) else (laws_FnPlanAll.j0 k bt101.2.2.2.1 bt101.2.2.2.2 t109 true bt101.1 bt101.2.1 bt101.2.2.1))))))
def laws_FnPlanAll.T5 : Bool × List (List Nat × List Nat) := (true, [([], []), ([], []), ([], []), ([], []), ([1, 2, 3], [1, 2, 3]), ([0, 4, 4], [0, 4]), ([5], [5]), ([6, 5], [6]), ([7], [7]), ([8, 7, 7], [7, 8]), ([7], [7]), ([10, 9, 7], [7, 10]), ([9, 11, 7], [7, 9, 11]), ([7, 12], [7, 12]), ([13, 11], [13]), ([14], [14]), ([15, 14], [14, 15]), ([16, 14], [14, 16]), ([14, 17], [14, 17])])
def laws_FnPlanAll.B5 : List Nat := [0, 0, 0, 0, 14, 31, 63, 127, 255, 511, 255, 2047, 4095, 8191, 16383, 32767, 65535, 131071, 262143]
theorem laws_FnPlanAll.tab5 : rtab .any (opsOf Try.f5 5) = laws_FnPlanAll.T5 := by kernel_rfl
theorem laws_FnPlanAll.bits5 : waitsOk laws_FnPlanAll.T5.2 laws_FnPlanAll.B5 = true := by kernel_rfl
def laws_FnPlanAll.T6 : Bool × List (List Nat × List Nat) := (true, [([], []), ([], []), ([], []), ([], []), ([1, 2, 3], [1, 2, 3]), ([0, 4, 4], [0, 4]), ([5, 5], [5]), ([6], [6]), ([7, 6, 6], [6, 7]), ([6], [6]), ([9, 8, 6], [6, 9]), ([8, 10, 6], [6, 8, 10]), ([6, 11], [6, 11]), ([12, 10, 0, 1, 2, 3, 4, 5, 6, 7, 8, 9, 10, 11, 12], [12])])
def laws_FnPlanAll.B6 : List Nat := [0, 0, 0, 0, 14, 31, 63, 127, 255, 127, 1023, 2047, 4095, 8191]
theorem laws_FnPlanAll.tab6 : rtab .any (opsOf Try.f5 6) = laws_FnPlanAll.T6 := by kernel_rfl
theorem laws_FnPlanAll.bits6 : waitsOk laws_FnPlanAll.T6.2 laws_FnPlanAll.B6 = true := by kernel_rfl
def laws_FnPlanAll.T14 : Bool × List (List Nat × List Nat) := (true, [([], []), ([0], [0]), ([1], [1]), ([2, 1], [1, 2]), ([1], [1]), ([3, 4, 1], [1, 3, 4]), ([5, 1], [1, 5]), ([6, 1], [1, 6]), ([1], [1]), ([7, 8, 1], [1, 7, 8]), ([9, 1, 1], [1, 9]), ([10], [10]), ([11, 10], [10, 11]), ([10], [10]), ([12, 13, 10], [10, 12, 13]), ([14, 10], [10, 14]), ([15, 10], [10, 15]), ([10], [10]), ([10], [10]), ([17, 18, 10], [10, 17, 18]), ([19, 10], [10, 19]), ([16, 20, 10], [10, 16, 20]), ([10, 21, 1], [1, 10, 21]), ([1, 22], [1, 22]), ([23, 10, 0, 1, 2, 3, 4, 5, 6, 7, 8, 9, 10, 11, 12, 13, 14, 15, 16, 17, 18, 19, 20, 21, 22, 23], [0, 23])])
def laws_FnPlanAll.B14 : List Nat := [0, 1, 3, 7, 3, 31, 63, 127, 3, 511, 1023, 2047, 4095, 2047, 16383, 32767, 65535, 2047, 2047, 395263, 919551, 2097151, 4194303, 8388607, 16777215]
theorem laws_FnPlanAll.tab14 : rtab .any (opsOf Try.f5 14) = laws_FnPlanAll.T14 := by kernel_rfl
theorem laws_FnPlanAll.bits14 : waitsOk laws_FnPlanAll.T14.2 laws_FnPlanAll.B14 = true := by kernel_rfl
def laws_FnPlanAll.T21 : Bool × List (List Nat × List Nat) := (true, [([], []), ([], []), ([0, 1], [0, 1]), ([2], [2]), ([], []), ([], []), ([4, 5], [4, 5]), ([6], [6]), ([3, 7], [3, 7])])
def laws_FnPlanAll.B21 : List Nat := [0, 0, 3, 7, 0, 0, 48, 112, 255]
theorem laws_FnPlanAll.tab21 : rtab .any (opsOf Try.f5 21) = laws_FnPlanAll.T21 := by kernel_rfl
theorem laws_FnPlanAll.bits21 : waitsOk laws_FnPlanAll.T21.2 laws_FnPlanAll.B21 = true := by kernel_rfl
set_option maxHeartbeats 8000000 in
set_option maxRecDepth 100000 in
theorem laws_FnPlanAll.calls (k : Nat) (A0 : Option Addr) (c0 : Nat) (l0 : List Int) (w : World) (hr0 : Kd.C (Kd.int .u8) w A0 l0.length l0) (hc0 : l0.length ≤ c0) (h : laws_FnPlanAll.f k l0 = some true) :
  Calls Try.prog 5 #[.slice A0 l0.length c0] w fun e w' => e = .returned (.bool true) ∧ Below w.heap.size w w' := by
 have hu25 := Try.underlying25
 have HR0 := Aside0.mk hr0
 have HC0 := Aside0.mk hc0
 clear hr0 hc0
 have HB := Aside0.mk (Below.refl w.heap.size w)
 have H : (if (l0.length : Int) > 1048576 then (some true) else ((spec_DrawPlanAll.f k l0).bind fun bt101 => ((impl_PlanAll.f k bt101.1 bt101.2.1 bt101.2.2.1 bt101.2.2.2.1 bt101.2.2.2.2).bind fun t109 => ((spec_PlanAll.f k bt101.1 bt101.2.1 bt101.2.2.1 bt101.2.2.2.1 bt101.2.2.2.2).bind fun t112 => ((laws_wkInts.f k t109 t112).bind fun t115 => (if t115 = true then ((impl_PlanOk.f k bt101.1 bt101.2.1 bt101.2.2.1).bind fun t116 => ((spec_PlanOk.f k bt101.1 bt101.2.1 bt101.2.2.1).bind fun t117 => (if (t116 != t117) = true then (laws_FnPlanAll.j0 k bt101.2.2.2.1 bt101.2.2.2.2 t109 true bt101.1 bt101.2.1 bt101.2.2.1) else (laws_FnPlanAll.j0 k bt101.2.2.2.1 bt101.2.2.2.2 t109 ((t109.length : Int) == 0) bt101.1 bt101.2.1 bt101.2.2.1)))) else (laws_FnPlanAll.j0 k bt101.2.2.2.1 bt101.2.2.2.2 t109 true bt101.1 bt101.2.1 bt101.2.2.1))))))) = some true := h
 clear h
 by_cases c2 : (l0.length : Int) > 1048576
 ·
  rw [if_pos c2] at H; have c2b0 : decide (1048576 < (l0.length : Int)) = true := decide_eq_true c2; have c2b1 : decide (1048576 < l0.length) = true := decide_eq_true (by omega); clear c2; clear H; go_enter Try.func5, Try.ntmps5; go_wp2; go_ret; exact ⟨by first | rfl | (simp [errW_none, errW_some] <;> rfl) | (simp [*, errW_none, errW_some] <;> rfl) | exact congrArg (fun b_ => Ending.returned (Value.bool b_)) HE_.out, uB0 HB⟩
 ·
  rw [if_neg c2] at H; have c2b0 : decide (1048576 < (l0.length : Int)) = false := decide_eq_false c2; have c2b1 : decide (1048576 < l0.length) = false := decide_eq_false (by omega); clear c2; replace H := Option.bind_eq_some_iff.mp H; obtain ⟨⟨t101, t102, t103, t106, t107⟩, A30, H⟩ := H; replace H : ((impl_PlanAll.f k t101 t102 t103 t106 t107).bind fun t109 => ((spec_PlanAll.f k t101 t102 t103 t106 t107).bind fun t112 => ((laws_wkInts.f k t109 t112).bind fun t115 => (if t115 = true then ((impl_PlanOk.f k t101 t102 t103).bind fun t116 => ((spec_PlanOk.f k t101 t102 t103).bind fun t117 => (if (t116 != t117) = true then (laws_FnPlanAll.j0 k t106 t107 t109 true t101 t102 t103) else (laws_FnPlanAll.j0 k t106 t107 t109 ((t109.length : Int) == 0) t101 t102 t103)))) else (laws_FnPlanAll.j0 k t106 t107 t109 true t101 t102 t103))))) = some true := H; have A3 := Aside0.mk A30; clear A30; replace H := Option.bind_eq_some_iff.mp H; obtain ⟨t109, A40, H⟩ := H; replace H : ((spec_PlanAll.f k t101 t102 t103 t106 t107).bind fun t112 => ((laws_wkInts.f k t109 t112).bind fun t115 => (if t115 = true then ((impl_PlanOk.f k t101 t102 t103).bind fun t116 => ((spec_PlanOk.f k t101 t102 t103).bind fun t117 => (if (t116 != t117) = true then (laws_FnPlanAll.j0 k t106 t107 t109 true t101 t102 t103) else (laws_FnPlanAll.j0 k t106 t107 t109 ((t109.length : Int) == 0) t101 t102 t103)))) else (laws_FnPlanAll.j0 k t106 t107 t109 true t101 t102 t103)))) = some true := H; have A4 := Aside0.mk A40; clear A40; have HC5 := Aside0.mk H; clear H; go_enter Try.func5, Try.ntmps5; go_upto_region 5 with (first | ((with_reducible refine gate_callee (f := 17) rfl ?_); refine goesL_ (some 17) rfl rfl Try.func17 (by kernel_rfl) rfl #[.slice A0 l0.length c0] rfl ul ?_; (with_reducible refine (spec_DrawPlanAll.calls k _ _ l0 t101 t102 t103 t106 t107 _ ?side1 ?side2 A3.out).mono ?_); (case side1 => repeat (first | exact HR0.out | (with_reducible refine Kd.C_alloc ?_ _) | (with_reducible refine Kd.C_drewN ?_ _) | (with_reducible refine Kd.C_drew ?_))); (case side2 => exact HC0.out); rintro e w6 ⟨v104, rfl, ho0, hb⟩; refine ⟨_, rfl, ?_⟩; have HO105 := Aside0.mk (Kd.R_lower ho0 (below_size (uB0 HB))); replace HB := Aside0.mk (below_step (uB0 HB) hb); (try clear hb); (try clear hb2); (try clear hk); (try clear hi); (try clear ho0)) | ((with_reducible refine gate_dst (N := 3) rfl ?_); refine be (cs := #[.int .i64 0, .int .i64 0, .slice none 0 0]) (t := 25) ?_; intro gb108 hg w7 hbox hb; replace HO105 := Aside0.mk (Kd.R_below (ur HO105) hb); have BK108 := Aside0.mk (hbox); have GW108 := gz w hg (uB0 HB); have GE108 := gz w hg (uB0 HB); replace HB := Aside0.mk (below_step (uB0 HB) hb); clear hb hbox hg; obtain ⟨hcz8_0, hcz8_1, hcz8_2, hfz8_0, hfz8_1, hfz8_2⟩ := bc3 BK108; obtain ⟨Ao9, co9, eo9⟩ := Kd.R_slice HO105.out; subst eo9) | ((with_reducible refine gate_callee (f := 18) rfl ?_); refine goesL_ (some 24) rfl rfl Try.func18 (by kernel_rfl) rfl #[.agg #[.int .i64 t101, .int .i64 t102, .slice Ao9 t103.length co9], .int .i64 t106, .int .i64 t107] rfl ul ?_; (with_reducible refine (impl_PlanAll.calls k t101 t102 _ _ t103 t106 t107 t109 _ ?side1 ?side2 A4.out).mono ?_); (case side1 => refine (Kd.R_reads' (e := 32) (base := w.heap.size) (ok := fun k_ => True) (n := t103.length) (c := co9) ?_).2.2; exact (by (with_reducible repeat (first | apply Kd.R_alloc | apply Kd.R_drewN | apply Kd.R_drew)); exact (Kd.R_mono (rf3 HO105 BK108) (fun _ h_ => h_.1)))); (case side2 => exact (Kd.R_reads' HO105.out).2.1); rintro e w10 ⟨v110, rfl, ho0, hb⟩; refine ⟨_, rfl, ?_⟩; replace HO105 := Aside0.mk (Kd.R_below (by (with_reducible repeat (first | apply Kd.R_alloc | apply Kd.R_drewN | apply Kd.R_drew)); exact (Kd.R_mono (rf3 HO105 BK108) (fun _ h_ => h_.1))) hb); have HO111 := Aside0.mk (Kd.R_lower ho0 (below_size (uB1 HB GE108.out))); replace BK108 := Aside0.mk (blk_below (g := gb108) (o := .cells #[.int .i64 t101, .int .i64 t102, .slice Ao9 t103.length co9] 25 (0, 0)) (by (with_reducible repeat first | apply zbn | apply zbd | apply zba); refine pu3 (.int .i64 0) (.int .i64 0) (.slice none 0 0) ?_; exact ub BK108) hb); replace HB := Aside0.mk (below_step (uB1 HB GE108.out) hb); (try clear hb); (try clear hb2); (try clear hk); (try clear hi); (try clear ho0)))
  (try simp only [Act.put, List.setIfInBounds_toArray, List.set_cons_zero, List.set_cons_succ]); go_cut [43] (fun v43 wc => ∃ (kq : Nat) (x43_4 : Bool), v43 = .bool x43_4 ∧ Aside0 (laws_FnPlanAll.j0 kq t106 t107 t109 x43_4 t101 t102 t103 = some true) ∧ Aside0 (kq ≤ k) ∧ Aside0 (Kd.R (Kd.int .i64) 3 wc w.heap.size (fun _ => True) v110 t109) ∧ Aside0 (Kd.R k32 32 wc w.heap.size (fun _ => True) (.slice Ao9 t103.length co9) t103) ∧ Aside0 (wc.heap[gb108]? = some (.cells #[.int .i64 t101, .int .i64 t102, (.slice Ao9 t103.length co9)] 25 (0, 0))) ∧ Aside0 (Below w.heap.size w wc))
  case first =>
   have H := HC5.out; clear HC5; replace H := Option.bind_eq_some_iff.mp H; obtain ⟨t112, A110, H⟩ := H; replace H : ((laws_wkInts.f k t109 t112).bind fun t115 => (if t115 = true then ((impl_PlanOk.f k t101 t102 t103).bind fun t116 => ((spec_PlanOk.f k t101 t102 t103).bind fun t117 => (if (t116 != t117) = true then (laws_FnPlanAll.j0 k t106 t107 t109 true t101 t102 t103) else (laws_FnPlanAll.j0 k t106 t107 t109 ((t109.length : Int) == 0) t101 t102 t103)))) else (laws_FnPlanAll.j0 k t106 t107 t109 true t101 t102 t103))) = some true := H; have A11 := Aside0.mk A110; clear A110; replace H := Option.bind_eq_some_iff.mp H; obtain ⟨t115, A120, H⟩ := H; replace H : (if t115 = true then ((impl_PlanOk.f k t101 t102 t103).bind fun t116 => ((spec_PlanOk.f k t101 t102 t103).bind fun t117 => (if (t116 != t117) = true then (laws_FnPlanAll.j0 k t106 t107 t109 true t101 t102 t103) else (laws_FnPlanAll.j0 k t106 t107 t109 ((t109.length : Int) == 0) t101 t102 t103)))) else (laws_FnPlanAll.j0 k t106 t107 t109 true t101 t102 t103)) = some true := H; have A12 := Aside0.mk A120; clear A120; by_cases c13 : t115 = true
   ·
    subst c13; rw [if_pos rfl] at H; replace H := Option.bind_eq_some_iff.mp H; obtain ⟨t116, A140, H⟩ := H; replace H : ((spec_PlanOk.f k t101 t102 t103).bind fun t117 => (if (t116 != t117) = true then (laws_FnPlanAll.j0 k t106 t107 t109 true t101 t102 t103) else (laws_FnPlanAll.j0 k t106 t107 t109 ((t109.length : Int) == 0) t101 t102 t103))) = some true := H; have A14 := Aside0.mk A140; clear A140; replace H := Option.bind_eq_some_iff.mp H; obtain ⟨t117, A150, H⟩ := H; replace H : (if (t116 != t117) = true then (laws_FnPlanAll.j0 k t106 t107 t109 true t101 t102 t103) else (laws_FnPlanAll.j0 k t106 t107 t109 ((t109.length : Int) == 0) t101 t102 t103)) = some true := H; have A15 := Aside0.mk A150; clear A150; by_cases c16 : (t116 != t117) = true
    ·
     rw [if_pos c16] at H; have c16b0 : (t116 != t117) = true := c16; (try (have c16b1 : decide (t116 = t117) = false := by simpa using c16)); (try (have c16b2 : (t116 == t117) = false := by simpa using c16)); (try (have c16b3 : ¬ (t116 = t117) := by simpa using c16)); clear c16; (first | rw [c16b0] | (simp only [i64_w, i32_w]; rw [c16b0]) | skip); have H' := Aside0.mk H; clear H; try go_wp2
     replace HO105 := Aside0.mk (Kd.R_drew HO105.out); replace HO111 := Aside0.mk (Kd.R_drew HO111.out); replace BK108 := Aside0.mk (blk_drew BK108.out); replace HB := Aside0.mk (below_drew1 HB.out); refine start_ (n := 19) (S := fun w' => w'.cell? ⟨gb108, 0, none⟩ = some (.int .i64 t101) ∧ w'.cell? ⟨gb108, 1, none⟩ = some (.int .i64 t102) ∧ w'.cell? ⟨gb108, 2, none⟩ = some (.slice Ao9 t103.length co9)) (ds := []) #[false,false,false,false,false,false,false,false,false,false,false,false,false,false,false,false,false,false,false] (by kernel_rfl) rfl rfl (b3_ BK108) (fun hHeld => ?_); refine with_tabW laws_FnPlanAll.tab5 laws_FnPlanAll.bits5 (fun HT_ HW_ => ?_); generalize w10.drew = w17 at HO105 HO111 BK108 HB hHeld ⊢; refine pz HT_ 0 25 (zt 19 1) rfl rfl ?_; refine pz HT_ 2 27 (zt 19 5) rfl rfl ?_; refine pz HT_ 3 28 (zt 19 13) rfl rfl ?_; refine pt HT_ HW_ 1 26 (zt 19 15) rfl rfl hHeld (by rintro w' ⟨s0, s1, s2⟩; go_simp; with_reducible rfl) ?_; refine one_ (i := 4) (N := some 29) (zt 19 31) rfl rfl (one_of HT_.out (by kernel_rfl)) (by decide) (fun K hK => ?_); refine goes_ Try.func20 (by kernel_rfl) rfl #[.agg #[.int .i64 t101, .int .i64 t102, .slice Ao9 t103.length co9], .int .i64 t106, .int .i64 t107] (by rfl) rfl rfl ul ?_; with_reducible refine (spec_PlanAll.calls k t101 t102 _ _ t103 t106 t107 t112 _ ?side1 ?side2 A11.out).mono ?_
     (case side1 => exact uD (Kd.R_reads' HO105.out).2.2); (case side2 => exact (Kd.R_reads' HO105.out).2.1); rintro e w18 ⟨v113, rfl, ho0, hb⟩; refine ⟨_, rfl, ?_⟩; replace HO105 := Aside0.mk (Kd.R_below (ur HO105) hb); have HO114 := Aside0.mk (Kd.R_lower (Kd.R_new' ho0 (Kd.R_lt (ur HO111))) (below_size (uB1 HB GE108.out))); replace HO111 := Aside0.mk (Kd.R_elder' (ur HO111) (Kd.R_base ho0) hb); replace BK108 := bb BK108 hb; replace HB := Aside0.mk (below_step (uB1 HB GE108.out) hb); (try clear hb); (try clear hb2); (try clear hk); (try clear hi); (try clear ho0); obtain ⟨Ao19, co19, eo19⟩ := Kd.R_slice HO111.out; (first | subst eo19 | (injection eo19 with f1_ f2_ f3_; have f4_ := f1_.symm; have f5_ := f3_.symm; clear f1_ f2_ f3_; subst f4_; subst f5_)); obtain ⟨Ao20, co20, eo20⟩ := Kd.R_slice HO114.out; (first | subst eo20 | (injection eo20 with f1_ f2_ f3_; have f4_ := f1_.symm; have f5_ := f3_.symm; clear f1_ f2_ f3_; subst f4_; subst f5_)); refine hK.out _ _ (b3_ BK108) (fun hHeld => ?_); clear hK K; refine nz ?_
     refine one_ (i := 5) (N := some 30) (zt 19 63) rfl rfl (one_of HT_.out (by kernel_rfl)) (by decide) (fun K hK => ?_); refine goes_ Try.func19 (by kernel_rfl) rfl #[.slice Ao19 t109.length co19, .slice Ao20 t112.length co20] (by rfl) rfl rfl ul ?_; with_reducible refine (laws_wkInts.calls k _ _ t109 _ _ t112 true _ ?side1 ?side2 ?side3 ?side4 A12.out).mono ?_
     (case side1 => exact uD (Kd.R_reads' HO111.out).2.2); (case side2 => exact (Kd.R_reads' HO111.out).2.1); (case side3 => exact uD (Kd.R_reads' HO114.out).2.2); (case side4 => exact (Kd.R_reads' HO114.out).2.1); rintro e w' ⟨rfl, ⟨nd, rfl⟩⟩; refine ⟨_, rfl, ?_⟩; refine hK.out _ _ (b3_ BK108) (fun hHeld => ?_); clear hK K; refine nz ?_
     refine pz HT_ 6 31 (zt 19 127) rfl rfl ?_; refine pz HT_ 7 32 (zt 19 255) rfl rfl ?_; refine pt HT_ HW_ 8 33 (zt 19 511) rfl rfl hHeld (by rintro w' ⟨s0, s1, s2⟩; go_simp; with_reducible rfl) ?_; refine pt HT_ HW_ 10 35 (zt 19 1535) rfl rfl hHeld (by rintro w' ⟨s0, s1, s2⟩; go_simp; with_reducible rfl) ?_; refine one_ (i := 9) (N := some 34) (zt 19 2047) rfl rfl (one_of HT_.out (by kernel_rfl)) (by decide) (fun K hK => ?_); refine goes_ Try.func21 (by kernel_rfl) rfl #[.agg #[.int .i64 t101, .int .i64 t102, .slice Ao9 t103.length co9]] (by rfl) rfl rfl ul ?_; with_reducible refine (impl_PlanOk.calls k t101 t102 _ _ t103 t116 _ ?side1 ?side2 A14.out).mono ?_
     (case side1 => exact uD (Kd.R_reads' HO105.out).2.2); (case side2 => exact (Kd.R_reads' HO105.out).2.1); rintro e w21 ⟨rfl, hb⟩; refine ⟨_, rfl, ?_⟩; replace HO105 := Aside0.mk (Kd.R_below (ur HO105) hb); replace HO111 := Aside0.mk (Kd.R_below (ur HO111) hb); replace HO114 := Aside0.mk (Kd.R_below (ur HO114) hb); replace BK108 := bb BK108 hb; replace HB := Aside0.mk (below_step (uB1 HB GE108.out) hb); (try clear hb); (try clear hb2); (try clear hk); (try clear hi); refine hK.out _ _ (b3_ BK108) (fun hHeld => ?_); clear hK K; refine nz ?_
     refine one_ (i := 11) (N := some 36) (zt 19 4095) rfl rfl (one_of HT_.out (by kernel_rfl)) (by decide) (fun K hK => ?_); refine goes_ Try.func22 (by kernel_rfl) rfl #[.agg #[.int .i64 t101, .int .i64 t102, .slice Ao9 t103.length co9]] (by rfl) rfl rfl ul ?_; with_reducible refine (spec_PlanOk.calls k t101 t102 _ _ t103 t117 _ ?side1 ?side2 A15.out).mono ?_
     (case side1 => exact uD (Kd.R_reads' HO105.out).2.2); (case side2 => exact (Kd.R_reads' HO105.out).2.1); rintro e w22 ⟨rfl, hb⟩; refine ⟨_, rfl, ?_⟩; replace HO105 := Aside0.mk (Kd.R_below (ur HO105) hb); replace HO111 := Aside0.mk (Kd.R_below (ur HO111) hb); replace HO114 := Aside0.mk (Kd.R_below (ur HO114) hb); replace BK108 := bb BK108 hb; replace HB := Aside0.mk (below_step (uB1 HB GE108.out) hb); (try clear hb); (try clear hb2); (try clear hk); (try clear hi); refine hK.out _ _ (b3_ BK108) (fun hHeld => ?_); clear hK K; refine nz ?_
     refine pz HT_ 12 37 (zt 19 8191) rfl rfl ?_; refine pz HT_ 13 38 (zt 19 16383) rfl rfl ?_; refine pz HT_ 14 39 (zt 19 32767) rfl rfl ?_; refine pn HT_ 15 40 (zt 19 65535) rfl rfl ?_; refine pn HT_ 16 41 (zt 19 131071) rfl rfl ?_; refine pn HT_ 17 42 (zt 19 262143) rfl rfl ?_; refine pz HT_ 18 43 (zt 19 524287) rfl rfl ?_; refine done_ (done_of HT_.out (by kernel_rfl)) ?_; try go_wp2
     go_meet
     case rel => exact ⟨_, (true), ue, H', ⟨by first | omega | exact Nat.le_refl _⟩, ⟨by (with_reducible repeat (first | apply Kd.R_alloc | apply Kd.R_drewN | apply Kd.R_drew)); exact Kd.R_mono HO111.out (fun _ hk => trivial)⟩, ⟨ur HO105⟩, ⟨ub BK108⟩, ⟨uB1 HB GE108.out⟩⟩
    ·
     rw [if_neg c16] at H; have c16b0 : (t116 != t117) = false := by simpa using c16
     (try (have c16b1 : decide (t116 = t117) = true := by simpa using c16)); (try (have c16b2 : (t116 == t117) = true := by simpa using c16)); clear c16; (first | rw [c16b0] | (simp only [i64_w, i32_w]; rw [c16b0]) | skip); have H' := Aside0.mk H; clear H; try go_wp2
     replace HO105 := Aside0.mk (Kd.R_drew HO105.out); replace HO111 := Aside0.mk (Kd.R_drew HO111.out); replace BK108 := Aside0.mk (blk_drew BK108.out); replace HB := Aside0.mk (below_drew1 HB.out); refine start_ (n := 19) (S := fun w' => w'.cell? ⟨gb108, 0, none⟩ = some (.int .i64 t101) ∧ w'.cell? ⟨gb108, 1, none⟩ = some (.int .i64 t102) ∧ w'.cell? ⟨gb108, 2, none⟩ = some (.slice Ao9 t103.length co9)) (ds := []) #[false,false,false,false,false,false,false,false,false,false,false,false,false,false,false,false,false,false,false] (by kernel_rfl) rfl rfl (b3_ BK108) (fun hHeld => ?_); refine with_tabW laws_FnPlanAll.tab5 laws_FnPlanAll.bits5 (fun HT_ HW_ => ?_); generalize w10.drew = w23 at HO105 HO111 BK108 HB hHeld ⊢; refine pz HT_ 0 25 (zt 19 1) rfl rfl ?_; refine pz HT_ 2 27 (zt 19 5) rfl rfl ?_; refine pz HT_ 3 28 (zt 19 13) rfl rfl ?_; refine pt HT_ HW_ 1 26 (zt 19 15) rfl rfl hHeld (by rintro w' ⟨s0, s1, s2⟩; go_simp; with_reducible rfl) ?_; refine one_ (i := 4) (N := some 29) (zt 19 31) rfl rfl (one_of HT_.out (by kernel_rfl)) (by decide) (fun K hK => ?_); refine goes_ Try.func20 (by kernel_rfl) rfl #[.agg #[.int .i64 t101, .int .i64 t102, .slice Ao9 t103.length co9], .int .i64 t106, .int .i64 t107] (by rfl) rfl rfl ul ?_; with_reducible refine (spec_PlanAll.calls k t101 t102 _ _ t103 t106 t107 t112 _ ?side1 ?side2 A11.out).mono ?_
     (case side1 => exact uD (Kd.R_reads' HO105.out).2.2); (case side2 => exact (Kd.R_reads' HO105.out).2.1); rintro e w24 ⟨v113, rfl, ho0, hb⟩; refine ⟨_, rfl, ?_⟩; replace HO105 := Aside0.mk (Kd.R_below (ur HO105) hb); have HO114 := Aside0.mk (Kd.R_lower (Kd.R_new' ho0 (Kd.R_lt (ur HO111))) (below_size (uB1 HB GE108.out))); replace HO111 := Aside0.mk (Kd.R_elder' (ur HO111) (Kd.R_base ho0) hb); replace BK108 := bb BK108 hb; replace HB := Aside0.mk (below_step (uB1 HB GE108.out) hb); (try clear hb); (try clear hb2); (try clear hk); (try clear hi); (try clear ho0); obtain ⟨Ao25, co25, eo25⟩ := Kd.R_slice HO111.out; (first | subst eo25 | (injection eo25 with f1_ f2_ f3_; have f4_ := f1_.symm; have f5_ := f3_.symm; clear f1_ f2_ f3_; subst f4_; subst f5_)); obtain ⟨Ao26, co26, eo26⟩ := Kd.R_slice HO114.out; (first | subst eo26 | (injection eo26 with f1_ f2_ f3_; have f4_ := f1_.symm; have f5_ := f3_.symm; clear f1_ f2_ f3_; subst f4_; subst f5_)); refine hK.out _ _ (b3_ BK108) (fun hHeld => ?_); clear hK K; refine nz ?_
     refine one_ (i := 5) (N := some 30) (zt 19 63) rfl rfl (one_of HT_.out (by kernel_rfl)) (by decide) (fun K hK => ?_); refine goes_ Try.func19 (by kernel_rfl) rfl #[.slice Ao25 t109.length co25, .slice Ao26 t112.length co26] (by rfl) rfl rfl ul ?_; with_reducible refine (laws_wkInts.calls k _ _ t109 _ _ t112 true _ ?side1 ?side2 ?side3 ?side4 A12.out).mono ?_
     (case side1 => exact uD (Kd.R_reads' HO111.out).2.2); (case side2 => exact (Kd.R_reads' HO111.out).2.1); (case side3 => exact uD (Kd.R_reads' HO114.out).2.2); (case side4 => exact (Kd.R_reads' HO114.out).2.1); rintro e w' ⟨rfl, ⟨nd, rfl⟩⟩; refine ⟨_, rfl, ?_⟩; refine hK.out _ _ (b3_ BK108) (fun hHeld => ?_); clear hK K; refine nz ?_
     refine pz HT_ 6 31 (zt 19 127) rfl rfl ?_; refine pz HT_ 7 32 (zt 19 255) rfl rfl ?_; refine pt HT_ HW_ 8 33 (zt 19 511) rfl rfl hHeld (by rintro w' ⟨s0, s1, s2⟩; go_simp; with_reducible rfl) ?_; refine pt HT_ HW_ 10 35 (zt 19 1535) rfl rfl hHeld (by rintro w' ⟨s0, s1, s2⟩; go_simp; with_reducible rfl) ?_; refine one_ (i := 9) (N := some 34) (zt 19 2047) rfl rfl (one_of HT_.out (by kernel_rfl)) (by decide) (fun K hK => ?_); refine goes_ Try.func21 (by kernel_rfl) rfl #[.agg #[.int .i64 t101, .int .i64 t102, .slice Ao9 t103.length co9]] (by rfl) rfl rfl ul ?_; with_reducible refine (impl_PlanOk.calls k t101 t102 _ _ t103 t116 _ ?side1 ?side2 A14.out).mono ?_
     (case side1 => exact uD (Kd.R_reads' HO105.out).2.2); (case side2 => exact (Kd.R_reads' HO105.out).2.1); rintro e w27 ⟨rfl, hb⟩; refine ⟨_, rfl, ?_⟩; replace HO105 := Aside0.mk (Kd.R_below (ur HO105) hb); replace HO111 := Aside0.mk (Kd.R_below (ur HO111) hb); replace HO114 := Aside0.mk (Kd.R_below (ur HO114) hb); replace BK108 := bb BK108 hb; replace HB := Aside0.mk (below_step (uB1 HB GE108.out) hb); (try clear hb); (try clear hb2); (try clear hk); (try clear hi); refine hK.out _ _ (b3_ BK108) (fun hHeld => ?_); clear hK K; refine nz ?_
     refine one_ (i := 11) (N := some 36) (zt 19 4095) rfl rfl (one_of HT_.out (by kernel_rfl)) (by decide) (fun K hK => ?_); refine goes_ Try.func22 (by kernel_rfl) rfl #[.agg #[.int .i64 t101, .int .i64 t102, .slice Ao9 t103.length co9]] (by rfl) rfl rfl ul ?_; with_reducible refine (spec_PlanOk.calls k t101 t102 _ _ t103 t117 _ ?side1 ?side2 A15.out).mono ?_
     (case side1 => exact uD (Kd.R_reads' HO105.out).2.2); (case side2 => exact (Kd.R_reads' HO105.out).2.1); rintro e w28 ⟨rfl, hb⟩; refine ⟨_, rfl, ?_⟩; replace HO105 := Aside0.mk (Kd.R_below (ur HO105) hb); replace HO111 := Aside0.mk (Kd.R_below (ur HO111) hb); replace HO114 := Aside0.mk (Kd.R_below (ur HO114) hb); replace BK108 := bb BK108 hb; replace HB := Aside0.mk (below_step (uB1 HB GE108.out) hb); (try clear hb); (try clear hb2); (try clear hk); (try clear hi); refine hK.out _ _ (b3_ BK108) (fun hHeld => ?_); clear hK K; refine nz ?_
     refine pz HT_ 12 37 (zt 19 8191) rfl rfl ?_; refine pz HT_ 13 38 (zt 19 16383) rfl rfl ?_; refine pz HT_ 14 39 (zt 19 32767) rfl rfl ?_; refine pz HT_ 15 40 (zt 19 65535) rfl rfl ?_; refine pz HT_ 16 41 (zt 19 131071) rfl rfl ?_; refine pz HT_ 17 42 (zt 19 262143) rfl rfl ?_; refine pz HT_ 18 43 (zt 19 524287) rfl rfl ?_; refine done_ (done_of HT_.out (by kernel_rfl)) ?_; try go_wp2
     go_meet
     case rel => exact ⟨_, (((t109.length : Int) == 0)), ue, H', ⟨by first | omega | exact Nat.le_refl _⟩, ⟨by (with_reducible repeat (first | apply Kd.R_alloc | apply Kd.R_drewN | apply Kd.R_drew)); exact Kd.R_mono HO111.out (fun _ hk => trivial)⟩, ⟨ur HO105⟩, ⟨ub BK108⟩, ⟨uB1 HB GE108.out⟩⟩
   ·
    replace c13 := Bool.eq_false_iff.mpr c13; subst c13; rw [if_neg (show ¬ (false = true) by decide)] at H; have H' := Aside0.mk H; clear H; try go_wp2
    replace HO105 := Aside0.mk (Kd.R_drew HO105.out); replace HO111 := Aside0.mk (Kd.R_drew HO111.out); replace BK108 := Aside0.mk (blk_drew BK108.out); replace HB := Aside0.mk (below_drew1 HB.out); refine start_ (n := 19) (S := fun w' => w'.cell? ⟨gb108, 0, none⟩ = some (.int .i64 t101) ∧ w'.cell? ⟨gb108, 1, none⟩ = some (.int .i64 t102) ∧ w'.cell? ⟨gb108, 2, none⟩ = some (.slice Ao9 t103.length co9)) (ds := []) #[false,false,false,false,false,false,false,false,false,false,false,false,false,false,false,false,false,false,false] (by kernel_rfl) rfl rfl (b3_ BK108) (fun hHeld => ?_); refine with_tabW laws_FnPlanAll.tab5 laws_FnPlanAll.bits5 (fun HT_ HW_ => ?_); generalize w10.drew = w29 at HO105 HO111 BK108 HB hHeld ⊢; refine pz HT_ 0 25 (zt 19 1) rfl rfl ?_; refine pz HT_ 2 27 (zt 19 5) rfl rfl ?_; refine pz HT_ 3 28 (zt 19 13) rfl rfl ?_; refine pt HT_ HW_ 1 26 (zt 19 15) rfl rfl hHeld (by rintro w' ⟨s0, s1, s2⟩; go_simp; with_reducible rfl) ?_; refine one_ (i := 4) (N := some 29) (zt 19 31) rfl rfl (one_of HT_.out (by kernel_rfl)) (by decide) (fun K hK => ?_); refine goes_ Try.func20 (by kernel_rfl) rfl #[.agg #[.int .i64 t101, .int .i64 t102, .slice Ao9 t103.length co9], .int .i64 t106, .int .i64 t107] (by rfl) rfl rfl ul ?_; with_reducible refine (spec_PlanAll.calls k t101 t102 _ _ t103 t106 t107 t112 _ ?side1 ?side2 A11.out).mono ?_
    (case side1 => exact uD (Kd.R_reads' HO105.out).2.2); (case side2 => exact (Kd.R_reads' HO105.out).2.1); rintro e w30 ⟨v113, rfl, ho0, hb⟩; refine ⟨_, rfl, ?_⟩; replace HO105 := Aside0.mk (Kd.R_below (ur HO105) hb); have HO114 := Aside0.mk (Kd.R_lower (Kd.R_new' ho0 (Kd.R_lt (ur HO111))) (below_size (uB1 HB GE108.out))); replace HO111 := Aside0.mk (Kd.R_elder' (ur HO111) (Kd.R_base ho0) hb); replace BK108 := bb BK108 hb; replace HB := Aside0.mk (below_step (uB1 HB GE108.out) hb); (try clear hb); (try clear hb2); (try clear hk); (try clear hi); (try clear ho0); obtain ⟨Ao31, co31, eo31⟩ := Kd.R_slice HO111.out; (first | subst eo31 | (injection eo31 with f1_ f2_ f3_; have f4_ := f1_.symm; have f5_ := f3_.symm; clear f1_ f2_ f3_; subst f4_; subst f5_)); obtain ⟨Ao32, co32, eo32⟩ := Kd.R_slice HO114.out; (first | subst eo32 | (injection eo32 with f1_ f2_ f3_; have f4_ := f1_.symm; have f5_ := f3_.symm; clear f1_ f2_ f3_; subst f4_; subst f5_)); refine hK.out _ _ (b3_ BK108) (fun hHeld => ?_); clear hK K; refine nz ?_
    refine one_ (i := 5) (N := some 30) (zt 19 63) rfl rfl (one_of HT_.out (by kernel_rfl)) (by decide) (fun K hK => ?_); refine goes_ Try.func19 (by kernel_rfl) rfl #[.slice Ao31 t109.length co31, .slice Ao32 t112.length co32] (by rfl) rfl rfl ul ?_; with_reducible refine (laws_wkInts.calls k _ _ t109 _ _ t112 false _ ?side1 ?side2 ?side3 ?side4 A12.out).mono ?_
    (case side1 => exact uD (Kd.R_reads' HO111.out).2.2); (case side2 => exact (Kd.R_reads' HO111.out).2.1); (case side3 => exact uD (Kd.R_reads' HO114.out).2.2); (case side4 => exact (Kd.R_reads' HO114.out).2.1); rintro e w' ⟨rfl, ⟨nd, rfl⟩⟩; refine ⟨_, rfl, ?_⟩; refine hK.out _ _ (b3_ BK108) (fun hHeld => ?_); clear hK K; refine nz ?_
    refine pz HT_ 6 31 (zt 19 127) rfl rfl ?_; refine pz HT_ 7 32 (zt 19 255) rfl rfl ?_; refine pn HT_ 8 33 (zt 19 511) rfl rfl ?_; refine pn HT_ 9 34 (zt 19 1023) rfl rfl ?_; refine pn HT_ 10 35 (zt 19 2047) rfl rfl ?_; refine pn HT_ 11 36 (zt 19 4095) rfl rfl ?_; refine pn HT_ 12 37 (zt 19 8191) rfl rfl ?_; refine pz HT_ 13 38 (zt 19 16383) rfl rfl ?_; refine pz HT_ 14 39 (zt 19 32767) rfl rfl ?_; refine pn HT_ 15 40 (zt 19 65535) rfl rfl ?_; refine pn HT_ 16 41 (zt 19 131071) rfl rfl ?_; refine pn HT_ 17 42 (zt 19 262143) rfl rfl ?_; refine pz HT_ 18 43 (zt 19 524287) rfl rfl ?_; refine done_ (done_of HT_.out (by kernel_rfl)) ?_; try go_wp2
    go_meet
    case rel => exact ⟨_, (true), ue, H', ⟨by first | omega | exact Nat.le_refl _⟩, ⟨by (with_reducible repeat (first | apply Kd.R_alloc | apply Kd.R_drewN | apply Kd.R_drew)); exact Kd.R_mono HO111.out (fun _ hk => trivial)⟩, ⟨ur HO105⟩, ⟨ub BK108⟩, ⟨uB1 HB GE108.out⟩⟩
  case rest =>
   clear HC5; try clear c1
   try clear c2
   try clear p2
   try clear c13
   try clear c16
   try clear c16b0
   try clear c16b1
   try clear c16b2
   try clear c19
   try clear c20
   try clear c21
   try clear c22
   obtain ⟨kq, x43_4, rfl, HA, HJ4, HO_6, HO_109002, BK108, HB⟩ := hcut
   cases kq with
   | zero => exact absurd HA.out (by simp [laws_FnPlanAll.j0])
   | succ kj4 =>
    have H := HA.out; clear HA; simp only [laws_FnPlanAll.j0] at H; by_cases c33 : x43_4 = true
    ·
     subst c33; rw [if_pos rfl] at H; replace H := Option.bind_eq_some_iff.mp H; obtain ⟨t118, A340, H⟩ := H; replace H : ((laws_wkInts.f kj4 t109 t118).bind fun t121 => (if t121 = true then ((impl_PlanOk.f kj4 t101 t102 t103).bind fun t122 => ((spec_PlanOk.f kj4 t101 t102 t103).bind fun t123 => (some (t122 == t123)))) else (some false))) = some true := H; have A34 := Aside0.mk A340; clear A340; replace H := Option.bind_eq_some_iff.mp H; obtain ⟨t121, A350, H⟩ := H; replace H : (if t121 = true then ((impl_PlanOk.f kj4 t101 t102 t103).bind fun t122 => ((spec_PlanOk.f kj4 t101 t102 t103).bind fun t123 => (some (t122 == t123)))) else (some false)) = some true := H; have A35 := Aside0.mk A350; clear A350; by_cases c36 : t121 = true
     ·
      subst c36; rw [if_pos rfl] at H; replace H := Option.bind_eq_some_iff.mp H; obtain ⟨t122, A370, H⟩ := H; replace H : ((spec_PlanOk.f kj4 t101 t102 t103).bind fun t123 => (some (t122 == t123))) = some true := H; have A37 := Aside0.mk A370; clear A370; replace H := Option.bind_eq_some_iff.mp H; obtain ⟨t123, A380, H⟩ := H; replace H : (some (t122 == t123)) = some true := H; have A38 := Aside0.mk A380; clear A380; have HE_ := Aside0.mk (Option.some.inj H); clear H; try go_wp2
      replace HO_6 := Aside0.mk (Kd.R_drew HO_6.out); replace HO_109002 := Aside0.mk (Kd.R_drew HO_109002.out); replace BK108 := Aside0.mk (blk_drew BK108.out); replace HB := Aside0.mk (below_drew1 HB.out); refine start_ (n := 14) (S := fun w' => w'.cell? ⟨gb108, 0, none⟩ = some (.int .i64 t101) ∧ w'.cell? ⟨gb108, 1, none⟩ = some (.int .i64 t102) ∧ w'.cell? ⟨gb108, 2, none⟩ = some (.slice Ao9 t103.length co9)) (ds := []) #[false,false,false,false,false,false,false,false,false,false,false,false,false,false] (by kernel_rfl) rfl rfl (b3_ BK108) (fun hHeld => ?_); refine with_tabW laws_FnPlanAll.tab6 laws_FnPlanAll.bits6 (fun HT_ HW_ => ?_); generalize wc.drew = w39 at HO_6 HO_109002 BK108 HB hHeld ⊢; refine pz HT_ 0 44 (zt 14 1) rfl rfl ?_; refine pz HT_ 2 46 (zt 14 5) rfl rfl ?_; refine pz HT_ 3 47 (zt 14 13) rfl rfl ?_; refine pt HT_ HW_ 1 45 (zt 14 15) rfl rfl hHeld (by rintro w' ⟨s0, s1, s2⟩; go_simp; with_reducible rfl) ?_; refine one_ (i := 4) (N := some 48) (zt 14 31) rfl rfl (one_of HT_.out (by kernel_rfl)) (by decide) (fun K hK => ?_); refine goes_ Try.func20 (by kernel_rfl) rfl #[.agg #[.int .i64 t101, .int .i64 t102, .slice Ao9 t103.length co9], .int .i64 t106, .int .i64 t107] (by rfl) rfl rfl ul ?_; with_reducible refine (spec_PlanAll.calls kj4 t101 t102 _ _ t103 t106 t107 t118 _ ?side1 ?side2 A34.out).mono ?_
      (case side1 => exact uD (Kd.R_reads' HO_109002.out).2.2); (case side2 => exact (Kd.R_reads' HO_109002.out).2.1); rintro e w40 ⟨v119, rfl, ho0, hb⟩; refine ⟨_, rfl, ?_⟩; replace HO_109002 := Aside0.mk (Kd.R_below (ur HO_109002) hb); have HO120 := Aside0.mk (Kd.R_lower (Kd.R_new' ho0 (Kd.R_lt (ur HO_6))) (below_size (uB1 HB GE108.out))); replace HO_6 := Aside0.mk (Kd.R_elder' (ur HO_6) (Kd.R_base ho0) hb); replace BK108 := bb BK108 hb; replace HB := Aside0.mk (below_step (uB1 HB GE108.out) hb); (try clear hb); (try clear hb2); (try clear hk); (try clear hi); (try clear ho0); obtain ⟨Ao41, co41, eo41⟩ := Kd.R_slice HO_6.out; (first | subst eo41 | (injection eo41 with f1_ f2_ f3_; have f4_ := f1_.symm; have f5_ := f3_.symm; clear f1_ f2_ f3_; subst f4_; subst f5_)); obtain ⟨Ao42, co42, eo42⟩ := Kd.R_slice HO120.out; (first | subst eo42 | (injection eo42 with f1_ f2_ f3_; have f4_ := f1_.symm; have f5_ := f3_.symm; clear f1_ f2_ f3_; subst f4_; subst f5_)); refine hK.out _ _ (b3_ BK108) (fun hHeld => ?_); clear hK K; refine nz ?_
      refine one_ (i := 5) (N := some 49) (zt 14 63) rfl rfl (one_of HT_.out (by kernel_rfl)) (by decide) (fun K hK => ?_); refine goes_ Try.func19 (by kernel_rfl) rfl #[.slice Ao41 t109.length co41, .slice Ao42 t118.length co42] (by rfl) rfl rfl ul ?_; with_reducible refine (laws_wkInts.calls kj4 _ _ t109 _ _ t118 true _ ?side1 ?side2 ?side3 ?side4 A35.out).mono ?_
      (case side1 => exact uD (Kd.R_reads' HO_6.out).2.2); (case side2 => exact (Kd.R_reads' HO_6.out).2.1); (case side3 => exact uD (Kd.R_reads' HO120.out).2.2); (case side4 => exact (Kd.R_reads' HO120.out).2.1); rintro e w' ⟨rfl, ⟨nd, rfl⟩⟩; refine ⟨_, rfl, ?_⟩; refine hK.out _ _ (b3_ BK108) (fun hHeld => ?_); clear hK K; refine nz ?_
      refine pz HT_ 6 50 (zt 14 127) rfl rfl ?_; refine pt HT_ HW_ 7 51 (zt 14 255) rfl rfl hHeld (by rintro w' ⟨s0, s1, s2⟩; go_simp; with_reducible rfl) ?_; refine pt HT_ HW_ 9 53 (zt 14 767) rfl rfl hHeld (by rintro w' ⟨s0, s1, s2⟩; go_simp; with_reducible rfl) ?_; refine one_ (i := 8) (N := some 52) (zt 14 1023) rfl rfl (one_of HT_.out (by kernel_rfl)) (by decide) (fun K hK => ?_); refine goes_ Try.func21 (by kernel_rfl) rfl #[.agg #[.int .i64 t101, .int .i64 t102, .slice Ao9 t103.length co9]] (by rfl) rfl rfl ul ?_; with_reducible refine (impl_PlanOk.calls kj4 t101 t102 _ _ t103 t122 _ ?side1 ?side2 A37.out).mono ?_
      (case side1 => exact uD (Kd.R_reads' HO_109002.out).2.2); (case side2 => exact (Kd.R_reads' HO_109002.out).2.1); rintro e w43 ⟨rfl, hb⟩; refine ⟨_, rfl, ?_⟩; replace HO_6 := Aside0.mk (Kd.R_below (ur HO_6) hb); replace HO_109002 := Aside0.mk (Kd.R_below (ur HO_109002) hb); replace HO120 := Aside0.mk (Kd.R_below (ur HO120) hb); replace BK108 := bb BK108 hb; replace HB := Aside0.mk (below_step (uB1 HB GE108.out) hb); (try clear hb); (try clear hb2); (try clear hk); (try clear hi); refine hK.out _ _ (b3_ BK108) (fun hHeld => ?_); clear hK K; refine nz ?_
      refine one_ (i := 10) (N := some 54) (zt 14 2047) rfl rfl (one_of HT_.out (by kernel_rfl)) (by decide) (fun K hK => ?_); refine goes_ Try.func22 (by kernel_rfl) rfl #[.agg #[.int .i64 t101, .int .i64 t102, .slice Ao9 t103.length co9]] (by rfl) rfl rfl ul ?_; with_reducible refine (spec_PlanOk.calls kj4 t101 t102 _ _ t103 t123 _ ?side1 ?side2 A38.out).mono ?_
      (case side1 => exact uD (Kd.R_reads' HO_109002.out).2.2); (case side2 => exact (Kd.R_reads' HO_109002.out).2.1); rintro e w44 ⟨rfl, hb⟩; refine ⟨_, rfl, ?_⟩; replace HO_6 := Aside0.mk (Kd.R_below (ur HO_6) hb); replace HO_109002 := Aside0.mk (Kd.R_below (ur HO_109002) hb); replace HO120 := Aside0.mk (Kd.R_below (ur HO120) hb); replace BK108 := bb BK108 hb; replace HB := Aside0.mk (below_step (uB1 HB GE108.out) hb); (try clear hb); (try clear hb2); (try clear hk); (try clear hi); refine hK.out _ _ (b3_ BK108) (fun hHeld => ?_); clear hK K; refine nz ?_
      refine pz HT_ 11 55 (zt 14 4095) rfl rfl ?_; refine pz HT_ 12 56 (zt 14 8191) rfl rfl ?_; refine pz HT_ 13 2 (zt 14 16383) rfl rfl ?_; refine done_ (done_of HT_.out (by kernel_rfl)) ?_; try go_wp2
      go_ret; exact ⟨by first | rfl | (simp [errW_none, errW_some] <;> rfl) | (simp [*, errW_none, errW_some] <;> rfl) | exact congrArg (fun b_ => Ending.returned (Value.bool b_)) HE_.out, uB1 HB GE108.out⟩
     ·
      replace c36 := Bool.eq_false_iff.mpr c36; subst c36; rw [if_neg (show ¬ (false = true) by decide)] at H; exact absurd H (by simp)
    ·
     replace c33 := Bool.eq_false_iff.mpr c33; subst c33; rw [if_neg (show ¬ (false = true) by decide)] at H; have H' := Aside0.mk H; clear H; go_wp2; go_loopg [7] kj4 (fun kq v7 w' => ∃ (x7_2 : Int), v7 = .int .i64 x7_2 ∧ Aside0 (laws_FnPlanAll.l0 kq t106 t107 t109 x7_2 t101 t102 t103 = some true) ∧ Aside0 (kq ≤ kj4) ∧ Aside0 (Kd.R (Kd.int .i64) 3 w' w.heap.size (fun _ => True) v110 t109) ∧ Aside0 (Kd.R k32 32 w' w.heap.size (fun _ => True) (.slice Ao9 t103.length co9) t103) ∧ Aside0 (w'.heap[gb108]? = some (.cells #[.int .i64 t101, .int .i64 t102, (.slice Ao9 t103.length co9)] 25 (0, 0))) ∧ Aside0 (Below w.heap.size w w'))
     case atStart => exact ⟨(0), ue, H', ⟨Nat.le_refl _⟩, ⟨ur HO_6⟩, ⟨ur HO_109002⟩, ⟨ub BK108⟩, ⟨uB1 HB GE108.out⟩⟩
     case round =>
      clear H'; try clear c1
      try clear c2
      try clear p2
      try clear c3
      try clear c13
      try clear c16
      try clear c16b0
      try clear c16b1
      try clear c16b2
      try clear c19
      try clear c20
      try clear c21
      try clear c22
      try clear c33
      try clear c36
      try clear p2
      obtain ⟨x7_2, rfl, HA, HK2, HO_6, HO_109002, BK108, HB⟩ := hrel
      cases gk with
      | zero => exact absurd HA.out (by simp [laws_FnPlanAll.l0])
      | succ k2 =>
       have H := HA.out; clear HA; simp only [laws_FnPlanAll.l0] at H; by_cases c45 : x7_2 < t101
       ·
        rw [if_pos c45] at H; have c45b0 : decide (x7_2 < t101) = true := decide_eq_true c45; clear c45; have HC46 := Aside0.mk H; clear H; obtain ⟨hcz47_0, hcz47_1, hcz47_2, hfz47_0, hfz47_1, hfz47_2⟩ := bc3 BK108; go_upto_region 10 with (fail)
        go_cut [8] (fun v8 wc => ∃ (kq : Nat) (x8_45 : Bool), v8 = .bool x8_45 ∧ Aside0 (laws_FnPlanAll.j2 kq t106 t107 t109 x7_2 x8_45 t101 t102 t103 = some true) ∧ Aside0 (kq ≤ k2) ∧ Aside0 (Kd.R (Kd.int .i64) 3 wc w.heap.size (fun _ => True) v110 t109) ∧ Aside0 (Kd.R k32 32 wc w.heap.size (fun _ => True) (.slice Ao9 t103.length co9) t103) ∧ Aside0 (wc.heap[gb108]? = some (.cells #[.int .i64 t101, .int .i64 t102, (.slice Ao9 t103.length co9)] 25 (0, 0))) ∧ Aside0 (Below w.heap.size w wc))
        case first =>
         have H := HC46.out; clear HC46; by_cases c48 : 0 ≤ x7_2
         ·
          rw [if_pos c48] at H; have c48b0 : decide (0 ≤ x7_2) = true := decide_eq_true c48; clear c48; (first | rw [c48b0] | (simp only [i64_w, i32_w]; rw [c48b0]) | skip); by_cases c49 : x7_2 < (t109.length : Int)
          ·
           rw [if_pos c49] at H; have c49b0 : decide (x7_2 < (t109.length : Int)) = true := decide_eq_true c49; clear c49; by_cases c50 : (rd t109 x7_2) = 99999
           ·
            rw [if_pos c50] at H; have c50b0 : ((rd t109 x7_2) == 99999) = true := beq_iff_eq.mpr c50; have c50b1 : ((rd t109 x7_2) != 99999) = false := bne_eq_false_iff_eq.mpr c50; clear c50; have H' := Aside0.mk H; clear H; obtain ⟨Ao51, co51, eo51⟩ := Kd.R_slice HO_6.out; subst eo51; have p124 : 0 ≤ (x7_2 : Int) := ua; have q124 : x7_2 < (t109.length : Int) := ua; obtain ⟨ad124, e124, hx124_0⟩ := Kd.at_int (Kd.R_reads' HO_6.out).2.2 x7_2 p124 q124
            cases e124
            replace p124 := eq_true p124; replace q124 := eq_true q124; go_wp2; go_meet
            case rel => exact ⟨_, (true), ue, H', ⟨by have := HJ4.out; have := HK2.out; first | omega | exact Nat.le_refl _⟩, ⟨ur HO_6⟩, ⟨ur HO_109002⟩, ⟨ub BK108⟩, ⟨uB1 HB GE108.out⟩⟩
           ·
            rw [if_neg c50] at H; have c50b0 : ((rd t109 x7_2) == 99999) = false := beq_eq_false_iff_ne.mpr c50; have c50b1 : ((rd t109 x7_2) != 99999) = true := bne_iff_ne.mpr c50; have H' := Aside0.mk H; clear H; obtain ⟨Ao52, co52, eo52⟩ := Kd.R_slice HO_6.out; subst eo52; have p124 : 0 ≤ (x7_2 : Int) := ua; have q124 : x7_2 < (t109.length : Int) := ua; obtain ⟨ad124, e124, hx124_0⟩ := Kd.at_int (Kd.R_reads' HO_6.out).2.2 x7_2 p124 q124
            cases e124
            replace p124 := eq_true p124; replace q124 := eq_true q124; go_wp2; go_meet
            case rel => exact ⟨_, ((x7_2 == t106)), ue, H', ⟨by have := HJ4.out; have := HK2.out; first | omega | exact Nat.le_refl _⟩, ⟨ur HO_6⟩, ⟨ur HO_109002⟩, ⟨ub BK108⟩, ⟨uB1 HB GE108.out⟩⟩
          ·
           rw [if_neg c49] at H; exact absurd H (by simp)
         ·
          rw [if_neg c48] at H; exact absurd H (by simp)
        case rest =>
         clear HC46; try clear c1
         try clear p1
         try clear q1
         try clear hx1
         try clear c2
         try clear p2
         try clear c3
         try clear c4
         try clear c5
         try clear p12
         try clear q12
         try clear hx12
         try clear c13
         try clear c16
         try clear c16b0
         try clear c16b1
         try clear c16b2
         try clear c19
         try clear c20
         try clear c21
         try clear c22
         try clear c33
         try clear c36
         try clear c45
         try clear c45b0
         try clear c48
         try clear c48b0
         try clear c49
         try clear c49b0
         try clear c50
         try clear c50b0
         try clear c50b1
         try clear hcz47_0 hcz47_1 hcz47_2 hfz47_0 hfz47_1 hfz47_2
         try clear hx124_0
         try clear p124
         try clear p2
         try clear q124
         obtain ⟨kq, x8_45, rfl, HA, HJ45, HO_6, HO_109002, BK108, HB⟩ := hcut
         cases kq with
         | zero => exact absurd HA.out (by simp [laws_FnPlanAll.j2])
         | succ kj45 =>
          have H := HA.out; clear HA; simp only [laws_FnPlanAll.j2] at H; have H' := Aside0.mk H; clear H; go_wp2; go_loopg [8, 9] kj45 (fun kq v8 v9 w' => ∃ (x8_4 : Bool) (x9_4 : Int), v8 = .bool x8_4 ∧ v9 = .int .i64 x9_4 ∧ Aside0 (laws_FnPlanAll.l1 kq t106 t107 t109 x7_2 x8_4 x9_4 t101 t102 t103 = some true) ∧ Aside0 (kq ≤ kj45) ∧ Aside0 (Kd.R (Kd.int .i64) 3 w' w.heap.size (fun _ => True) v110 t109) ∧ Aside0 (Kd.R k32 32 w' w.heap.size (fun _ => True) (.slice Ao9 t103.length co9) t103) ∧ Aside0 (w'.heap[gb108]? = some (.cells #[.int .i64 t101, .int .i64 t102, (.slice Ao9 t103.length co9)] 25 (0, 0))) ∧ Aside0 (Below w.heap.size w w'))
          case atStart => exact ⟨(x8_45), (0), ue, ue, H', ⟨Nat.le_refl _⟩, ⟨ur HO_6⟩, ⟨ur HO_109002⟩, ⟨ub BK108⟩, ⟨uB1 HB GE108.out⟩⟩
          case round =>
           clear H'; try clear c1
           try clear p1
           try clear q1
           try clear hx1
           try clear c2
           try clear p2
           try clear c3
           try clear c4
           try clear c5
           try clear p12
           try clear q12
           try clear hx12
           try clear c13
           try clear c16
           try clear c16b0
           try clear c16b1
           try clear c16b2
           try clear c19
           try clear c20
           try clear c21
           try clear c22
           try clear c33
           try clear c36
           try clear c45
           try clear c45b0
           try clear c48
           try clear c48b0
           try clear c49
           try clear c49b0
           try clear c50
           try clear c50b0
           try clear c50b1
           try clear hcz47_0 hcz47_1 hcz47_2 hfz47_0 hfz47_1 hfz47_2
           try clear hx124_0
           try clear p1
           try clear p12
           try clear p124
           try clear p2
           try clear q1
           try clear q12
           try clear q124
           obtain ⟨x8_4, x9_4, rfl, rfl, HA, HK4, HO_6, HO_109002, BK108, HB⟩ := hrel
           cases gk with
           | zero => exact absurd HA.out (by simp [laws_FnPlanAll.l1])
           | succ k4 =>
            have H := HA.out; clear HA; simp only [laws_FnPlanAll.l1] at H; by_cases c53 : x9_4 < (t103.length : Int)
            ·
             rw [if_pos c53] at H; have c53b0 : decide (x9_4 < (t103.length : Int)) = true := decide_eq_true c53; clear c53; by_cases c54 : x8_4 = true
             ·
              subst c54; rw [if_pos rfl] at H; have H' := Aside0.mk H; clear H; obtain ⟨hcz55_0, hcz55_1, hcz55_2, hfz55_0, hfz55_1, hfz55_2⟩ := bc3 BK108; try go_wp2
              replace HO_6 := Aside0.mk (Kd.R_drew HO_6.out); replace HO_109002 := Aside0.mk (Kd.R_drew HO_109002.out); replace BK108 := Aside0.mk (blk_drew BK108.out); replace HB := Aside0.mk (below_drew1 HB.out); refine start_ (n := 25) (S := fun w' => True) (ds := []) #[false,false,false,false,false,false,false,false,false,false,false,false,false,false,false,false,false,false,false,false,false,false,false,false,false] (by kernel_rfl) rfl rfl trivial (fun hHeld => ?_); refine with_tabW laws_FnPlanAll.tab14 laws_FnPlanAll.bits14 (fun HT_ HW_ => ?_); generalize wr.drew = w56 at HO_6 HO_109002 BK108 HB hHeld ⊢; refine pz HT_ 0 80 (zt 25 1) rfl rfl ?_; refine pz HT_ 1 81 (zt 25 3) rfl rfl ?_; refine pn HT_ 2 82 (zt 25 7) rfl rfl ?_; refine pn HT_ 3 83 (zt 25 15) rfl rfl ?_; refine pn HT_ 4 84 (zt 25 31) rfl rfl ?_; refine pn HT_ 5 85 (zt 25 63) rfl rfl ?_; refine pn HT_ 6 86 (zt 25 127) rfl rfl ?_; refine pn HT_ 7 87 (zt 25 255) rfl rfl ?_; refine pn HT_ 8 88 (zt 25 511) rfl rfl ?_; refine pn HT_ 9 89 (zt 25 1023) rfl rfl ?_; refine pn HT_ 10 90 (zt 25 2047) rfl rfl ?_; refine pn HT_ 11 91 (zt 25 4095) rfl rfl ?_; refine pn HT_ 12 92 (zt 25 8191) rfl rfl ?_; refine pn HT_ 13 93 (zt 25 16383) rfl rfl ?_; refine pn HT_ 14 94 (zt 25 32767) rfl rfl ?_; refine pn HT_ 15 95 (zt 25 65535) rfl rfl ?_; refine pn HT_ 16 96 (zt 25 131071) rfl rfl ?_; refine pn HT_ 17 97 (zt 25 262143) rfl rfl ?_; refine pn HT_ 18 98 (zt 25 524287) rfl rfl ?_; refine pn HT_ 19 99 (zt 25 1048575) rfl rfl ?_; refine pn HT_ 20 100 (zt 25 2097151) rfl rfl ?_; refine pn HT_ 21 101 (zt 25 4194303) rfl rfl ?_; refine pn HT_ 22 102 (zt 25 8388607) rfl rfl ?_; refine pz HT_ 23 103 (zt 25 16777215) rfl rfl ?_; refine pz HT_ 24 8 (zt 25 33554431) rfl rfl ?_; refine done_ (done_of HT_.out (by kernel_rfl)) ?_; try go_wp2
              go_roundg k4
              case measure => have := HJ4.out; have := HK2.out; have := HJ45.out; have := HK4.out; omega
              case rel => exact ⟨(true), (wrap64 (x9_4 + 1)), ue, ue, H', ⟨by have := HJ4.out; have := HK2.out; have := HJ45.out; have := HK4.out; omega⟩, ⟨ur HO_6⟩, ⟨ur HO_109002⟩, ⟨ub BK108⟩, ⟨uB1 HB GE108.out⟩⟩
             ·
              replace c54 := Bool.eq_false_iff.mpr c54; subst c54; rw [if_neg (show ¬ (false = true) by decide)] at H; by_cases c57 : 0 ≤ x9_4
              ·
               rw [if_pos c57] at H; have c57b0 : decide (0 ≤ x9_4) = true := decide_eq_true c57; clear c57; by_cases c58 : ((rd_T32 t103 x9_4).f1) = x7_2
               ·
                rw [if_pos c58] at H; have c58b0 : (((rd_T32 t103 x9_4).f1) == x7_2) = true := beq_iff_eq.mpr c58; have c58b1 : (((rd_T32 t103 x9_4).f1) != x7_2) = false := bne_eq_false_iff_eq.mpr c58; clear c58; by_cases c59 : 0 ≤ x7_2
                ·
                 rw [if_pos c59] at H; have c59b0 : decide (0 ≤ x7_2) = true := decide_eq_true c59; clear c59; by_cases c60 : x7_2 < (t109.length : Int)
                 ·
                  rw [if_pos c60] at H; have c60b0 : decide (x7_2 < (t109.length : Int)) = true := decide_eq_true c60; clear c60; have H' := Aside0.mk H; clear H; obtain ⟨hcz61_0, hcz61_1, hcz61_2, hfz61_0, hfz61_1, hfz61_2⟩ := bc3 BK108; try go_wp2
                  replace HO_6 := Aside0.mk (Kd.R_drew HO_6.out); replace HO_109002 := Aside0.mk (Kd.R_drew HO_109002.out); replace BK108 := Aside0.mk (blk_drew BK108.out); replace HB := Aside0.mk (below_drew1 HB.out); have p125 : 0 ≤ (x9_4 : Int) := ua; have q125 : x9_4 < (t103.length : Int) := ua; obtain ⟨ad125, e125, hx125_0, hx125_1, hx125_2, hx125_3, hx125_4⟩ := at_T32 (Kd.R_reads' HO_109002.out).2.2 x9_4 p125 q125
                  cases e125
                  replace p125 := eq_true p125; replace q125 := eq_true q125; have p126 : 0 ≤ (x9_4 : Int) := ua; have q126 : x9_4 < (t103.length : Int) := ua; obtain ⟨ad126, e126, hx126_0, hx126_1, hx126_2, hx126_3, hx126_4⟩ := at_T32 (Kd.R_reads' HO_109002.out).2.2 x9_4 p126 q126; obtain rfl : ad125 = ad126 := (by injection e126)
                  replace p126 := eq_true p126; replace q126 := eq_true q126; obtain ⟨Ao63, co63, eo63⟩ := Kd.R_slice HO_6.out; (first | subst eo63 | (injection eo63 with f1_ f2_ f3_; have f4_ := f1_.symm; have f5_ := f3_.symm; clear f1_ f2_ f3_; subst f4_; subst f5_)); have p127 : 0 ≤ (x7_2 : Int) := ua; have q127 : x7_2 < (t109.length : Int) := ua; obtain ⟨ad127, e127, hx127_0⟩ := Kd.at_int (Kd.R_reads' HO_6.out).2.2 x7_2 p127 q127
                  cases e127
                  replace p127 := eq_true p127; replace q127 := eq_true q127; refine start_ (n := 25) (S := fun w' => w'.cell? ⟨gb108, 0, none⟩ = some (.int .i64 t101) ∧ w'.cell? ⟨gb108, 1, none⟩ = some (.int .i64 t102) ∧ w'.cell? ⟨gb108, 2, none⟩ = some (.slice (some ad125) t103.length co9) ∧ w'.cell? (ad125.add ((x9_4).toNat * 5)) = some (.int .i64 ((rd_T32 t103 x9_4).f0)) ∧ w'.cell? ⟨(ad125.add ((x9_4).toNat * 5)).block, (ad125.add ((x9_4).toNat * 5)).off + 1, none⟩ = some (.int .i64 ((rd_T32 t103 x9_4).f1)) ∧ w'.cell? ⟨(ad125.add ((x9_4).toNat * 5)).block, (ad125.add ((x9_4).toNat * 5)).off + 2, none⟩ = some (.int .i64 ((rd_T32 t103 x9_4).f2)) ∧ w'.cell? ⟨(ad125.add ((x9_4).toNat * 5)).block, (ad125.add ((x9_4).toNat * 5)).off + 3, none⟩ = some (.int .i64 ((rd_T32 t103 x9_4).f3)) ∧ w'.cell? ⟨(ad125.add ((x9_4).toNat * 5)).block, (ad125.add ((x9_4).toNat * 5)).off + 4, none⟩ = some (.int .i64 ((rd_T32 t103 x9_4).f4)) ∧ w'.cell? (ad125.add ((x9_4).toNat * 5)) = some (.int .i64 ((rd_T32 t103 x9_4).f0)) ∧ w'.cell? ⟨(ad125.add ((x9_4).toNat * 5)).block, (ad125.add ((x9_4).toNat * 5)).off + 1, none⟩ = some (.int .i64 ((rd_T32 t103 x9_4).f1)) ∧ w'.cell? ⟨(ad125.add ((x9_4).toNat * 5)).block, (ad125.add ((x9_4).toNat * 5)).off + 2, none⟩ = some (.int .i64 ((rd_T32 t103 x9_4).f2)) ∧ w'.cell? ⟨(ad125.add ((x9_4).toNat * 5)).block, (ad125.add ((x9_4).toNat * 5)).off + 3, none⟩ = some (.int .i64 ((rd_T32 t103 x9_4).f3)) ∧ w'.cell? ⟨(ad125.add ((x9_4).toNat * 5)).block, (ad125.add ((x9_4).toNat * 5)).off + 4, none⟩ = some (.int .i64 ((rd_T32 t103 x9_4).f4)) ∧ w'.cell? (ad127.add (x7_2).toNat) = some (.int .i64 (rd t109 x7_2))) (ds := []) #[false,false,false,false,false,false,false,false,false,false,false,false,false,false,false,false,false,false,false,false,false,false,false,false,false] (by kernel_rfl) rfl rfl (b3x BK108 ⟨hx125_0, hx125_1, hx125_2, hx125_3, hx125_4, hx126_0, hx126_1, hx126_2, hx126_3, hx126_4, hx127_0⟩) (fun hHeld => ?_); refine with_tabW laws_FnPlanAll.tab14 laws_FnPlanAll.bits14 (fun HT_ HW_ => ?_); generalize wr.drew = w62 at HO_6 HO_109002 BK108 HB hx125_0 hx125_1 hx125_2 hx125_3 hx125_4 hx126_0 hx126_1 hx126_2 hx126_3 hx126_4 hx127_0 hHeld ⊢; refine pz HT_ 0 80 (zt 25 1) rfl rfl ?_; refine pz HT_ 1 81 (zt 25 3) rfl rfl ?_; refine pz HT_ 2 82 (zt 25 7) rfl rfl ?_; refine pz HT_ 4 84 (zt 25 23) rfl rfl ?_; refine pz HT_ 8 88 (zt 25 279) rfl rfl ?_; refine pt HT_ HW_ 3 83 (zt 25 287) rfl rfl hHeld (by rintro w' ⟨s0, s1, s2, s3, s4, s5, s6, s7, s8, s9, s10, s11, s12, s13⟩; go_simp; with_reducible rfl) ?_; refine pz HT_ 5 85 (zt 25 319) rfl rfl ?_; refine pz HT_ 6 86 (zt 25 383) rfl rfl ?_; refine pt HT_ HW_ 7 87 (zt 25 511) rfl rfl hHeld (by rintro w' ⟨s0, s1, s2, s3, s4, s5, s6, s7, s8, s9, s10, s11, s12, s13⟩; go_simp; with_reducible rfl) ?_; refine pz HT_ 9 89 (zt 25 1023) rfl rfl ?_; refine pz HT_ 10 90 (zt 25 2047) rfl rfl ?_; refine pz HT_ 11 91 (zt 25 4095) rfl rfl ?_; refine pz HT_ 13 93 (zt 25 12287) rfl rfl ?_; refine pz HT_ 17 97 (zt 25 143359) rfl rfl ?_; refine pz HT_ 18 98 (zt 25 405503) rfl rfl ?_; refine pz HT_ 19 99 (zt 25 929791) rfl rfl ?_; refine pt HT_ HW_ 12 92 (zt 25 933887) rfl rfl hHeld (by rintro w' ⟨s0, s1, s2, s3, s4, s5, s6, s7, s8, s9, s10, s11, s12, s13⟩; go_simp; with_reducible rfl) ?_; refine pz HT_ 14 94 (zt 25 950271) rfl rfl ?_; refine pz HT_ 15 95 (zt 25 983039) rfl rfl ?_; refine pt HT_ HW_ 16 96 (zt 25 1048575) rfl rfl hHeld (by rintro w' ⟨s0, s1, s2, s3, s4, s5, s6, s7, s8, s9, s10, s11, s12, s13⟩; go_simp; with_reducible rfl) ?_; refine pt HT_ HW_ 20 100 (zt 25 2097151) rfl rfl hHeld (by rintro w' ⟨s0, s1, s2, s3, s4, s5, s6, s7, s8, s9, s10, s11, s12, s13⟩; go_simp; with_reducible rfl) ?_; refine pz HT_ 21 101 (zt 25 4194303) rfl rfl ?_; refine pz HT_ 22 102 (zt 25 8388607) rfl rfl ?_; refine pz HT_ 23 103 (zt 25 16777215) rfl rfl ?_; refine pz HT_ 24 8 (zt 25 33554431) rfl rfl ?_; refine done_ (done_of HT_.out (by kernel_rfl)) ?_; try go_wp2
                  go_roundg k4
                  case measure => have := HJ4.out; have := HK2.out; have := HJ45.out; have := HK4.out; omega
                  case rel => exact ⟨((((rd_T32 t103 x9_4).f3) == (rd t109 x7_2))), (wrap64 (x9_4 + 1)), ue, ue, H', ⟨by have := HJ4.out; have := HK2.out; have := HJ45.out; have := HK4.out; omega⟩, ⟨ur HO_6⟩, ⟨ur HO_109002⟩, ⟨ub BK108⟩, ⟨uB1 HB GE108.out⟩⟩
                 ·
                  rw [if_neg c60] at H; exact absurd H (by simp)
                ·
                 rw [if_neg c59] at H; exact absurd H (by simp)
               ·
                rw [if_neg c58] at H; have c58b0 : (((rd_T32 t103 x9_4).f1) == x7_2) = false := beq_eq_false_iff_ne.mpr c58; have c58b1 : (((rd_T32 t103 x9_4).f1) != x7_2) = true := bne_iff_ne.mpr c58; have H' := Aside0.mk H; clear H; obtain ⟨hcz64_0, hcz64_1, hcz64_2, hfz64_0, hfz64_1, hfz64_2⟩ := bc3 BK108; try go_wp2
                replace HO_6 := Aside0.mk (Kd.R_drew HO_6.out); replace HO_109002 := Aside0.mk (Kd.R_drew HO_109002.out); replace BK108 := Aside0.mk (blk_drew BK108.out); replace HB := Aside0.mk (below_drew1 HB.out); have p125 : 0 ≤ (x9_4 : Int) := ua; have q125 : x9_4 < (t103.length : Int) := ua; obtain ⟨ad125, e125, hx125_0, hx125_1, hx125_2, hx125_3, hx125_4⟩ := at_T32 (Kd.R_reads' HO_109002.out).2.2 x9_4 p125 q125
                cases e125
                replace p125 := eq_true p125; replace q125 := eq_true q125; refine start_ (n := 25) (S := fun w' => w'.cell? ⟨gb108, 0, none⟩ = some (.int .i64 t101) ∧ w'.cell? ⟨gb108, 1, none⟩ = some (.int .i64 t102) ∧ w'.cell? ⟨gb108, 2, none⟩ = some (.slice (some ad125) t103.length co9) ∧ w'.cell? (ad125.add ((x9_4).toNat * 5)) = some (.int .i64 ((rd_T32 t103 x9_4).f0)) ∧ w'.cell? ⟨(ad125.add ((x9_4).toNat * 5)).block, (ad125.add ((x9_4).toNat * 5)).off + 1, none⟩ = some (.int .i64 ((rd_T32 t103 x9_4).f1)) ∧ w'.cell? ⟨(ad125.add ((x9_4).toNat * 5)).block, (ad125.add ((x9_4).toNat * 5)).off + 2, none⟩ = some (.int .i64 ((rd_T32 t103 x9_4).f2)) ∧ w'.cell? ⟨(ad125.add ((x9_4).toNat * 5)).block, (ad125.add ((x9_4).toNat * 5)).off + 3, none⟩ = some (.int .i64 ((rd_T32 t103 x9_4).f3)) ∧ w'.cell? ⟨(ad125.add ((x9_4).toNat * 5)).block, (ad125.add ((x9_4).toNat * 5)).off + 4, none⟩ = some (.int .i64 ((rd_T32 t103 x9_4).f4))) (ds := []) #[false,false,false,false,false,false,false,false,false,false,false,false,false,false,false,false,false,false,false,false,false,false,false,false,false] (by kernel_rfl) rfl rfl (b3x BK108 ⟨hx125_0, hx125_1, hx125_2, hx125_3, hx125_4⟩) (fun hHeld => ?_); refine with_tabW laws_FnPlanAll.tab14 laws_FnPlanAll.bits14 (fun HT_ HW_ => ?_); generalize wr.drew = w65 at HO_6 HO_109002 BK108 HB hx125_0 hx125_1 hx125_2 hx125_3 hx125_4 hHeld ⊢; refine pz HT_ 0 80 (zt 25 1) rfl rfl ?_; refine pz HT_ 1 81 (zt 25 3) rfl rfl ?_; refine pz HT_ 2 82 (zt 25 7) rfl rfl ?_; refine pz HT_ 4 84 (zt 25 23) rfl rfl ?_; refine pz HT_ 8 88 (zt 25 279) rfl rfl ?_; refine pt HT_ HW_ 3 83 (zt 25 287) rfl rfl hHeld (by rintro w' ⟨s0, s1, s2, s3, s4, s5, s6, s7⟩; go_simp; with_reducible rfl) ?_; refine pz HT_ 5 85 (zt 25 319) rfl rfl ?_; refine pz HT_ 6 86 (zt 25 383) rfl rfl ?_; refine pt HT_ HW_ 7 87 (zt 25 511) rfl rfl hHeld (by rintro w' ⟨s0, s1, s2, s3, s4, s5, s6, s7⟩; go_simp; with_reducible rfl) ?_; refine pz HT_ 9 89 (zt 25 1023) rfl rfl ?_; refine pz HT_ 10 90 (zt 25 2047) rfl rfl ?_; refine pn HT_ 11 91 (zt 25 4095) rfl rfl ?_; refine pn HT_ 12 92 (zt 25 8191) rfl rfl ?_; refine pn HT_ 13 93 (zt 25 16383) rfl rfl ?_; refine pn HT_ 14 94 (zt 25 32767) rfl rfl ?_; refine pn HT_ 15 95 (zt 25 65535) rfl rfl ?_; refine pn HT_ 16 96 (zt 25 131071) rfl rfl ?_; refine pn HT_ 17 97 (zt 25 262143) rfl rfl ?_; refine pn HT_ 18 98 (zt 25 524287) rfl rfl ?_; refine pn HT_ 19 99 (zt 25 1048575) rfl rfl ?_; refine pn HT_ 20 100 (zt 25 2097151) rfl rfl ?_; refine pn HT_ 21 101 (zt 25 4194303) rfl rfl ?_; refine pz HT_ 22 102 (zt 25 8388607) rfl rfl ?_; refine pz HT_ 23 103 (zt 25 16777215) rfl rfl ?_; refine pz HT_ 24 8 (zt 25 33554431) rfl rfl ?_; refine done_ (done_of HT_.out (by kernel_rfl)) ?_; try go_wp2
                go_roundg k4
                case measure => have := HJ4.out; have := HK2.out; have := HJ45.out; have := HK4.out; omega
                case rel => exact ⟨(false), (wrap64 (x9_4 + 1)), ue, ue, H', ⟨by have := HJ4.out; have := HK2.out; have := HJ45.out; have := HK4.out; omega⟩, ⟨ur HO_6⟩, ⟨ur HO_109002⟩, ⟨ub BK108⟩, ⟨uB1 HB GE108.out⟩⟩
              ·
               rw [if_neg c57] at H; exact absurd H (by simp)
            ·
             rw [if_neg c53] at H; have c53b0 : decide (x9_4 < (t103.length : Int)) = false := decide_eq_false c53; clear c53; by_cases c66 : x8_4 = true
             ·
              subst c66; rw [if_pos rfl] at H; by_cases c67 : 0 ≤ x7_2
              ·
               rw [if_pos c67] at H; have c67b0 : decide (0 ≤ x7_2) = true := decide_eq_true c67; clear c67; by_cases c68 : x7_2 < (t109.length : Int)
               ·
                rw [if_pos c68] at H; have c68b0 : decide (x7_2 < (t109.length : Int)) = true := decide_eq_true c68; clear c68; by_cases c69 : (rd t109 x7_2) < t107
                ·
                 rw [if_pos c69] at H; have c69b0 : decide ((rd t109 x7_2) < t107) = true := decide_eq_true c69; clear c69; exact absurd H (by simp)
                ·
                 rw [if_neg c69] at H; have c69b0 : decide ((rd t109 x7_2) < t107) = false := decide_eq_false c69; clear c69; have H' := Aside0.mk H; clear H; obtain ⟨hcz70_0, hcz70_1, hcz70_2, hfz70_0, hfz70_1, hfz70_2⟩ := bc3 BK108; obtain ⟨Ao71, co71, eo71⟩ := Kd.R_slice HO_6.out; subst eo71; have p128 : 0 ≤ (x7_2 : Int) := ua; have q128 : x7_2 < (t109.length : Int) := ua; obtain ⟨ad128, e128, hx128_0⟩ := Kd.at_int (Kd.R_reads' HO_6.out).2.2 x7_2 p128 q128
                 cases e128
                 replace p128 := eq_true p128; replace q128 := eq_true q128; go_wp2; go_roundg k4
                 case measure => have := HJ4.out; have := HK2.out; have := HJ45.out; have := HK4.out; omega
                 case rel => exact ⟨(wrap64 (x7_2 + 1)), ue, H', ⟨by have := HJ4.out; have := HK2.out; have := HJ45.out; have := HK4.out; omega⟩, ⟨ur HO_6⟩, ⟨ur HO_109002⟩, ⟨ub BK108⟩, ⟨uB1 HB GE108.out⟩⟩
               ·
                rw [if_neg c68] at H; exact absurd H (by simp)
              ·
               rw [if_neg c67] at H; exact absurd H (by simp)
             ·
              replace c66 := Bool.eq_false_iff.mpr c66; subst c66; rw [if_neg (show ¬ (false = true) by decide)] at H; exact absurd H (by simp)
       ·
        rw [if_neg c45] at H; have c45b0 : decide (x7_2 < t101) = false := decide_eq_false c45; clear c45; replace H := Option.bind_eq_some_iff.mp H; obtain ⟨t129, A720, H⟩ := H; replace H : (laws_FnPlanAll.l2 k2 t106 t107 t109 t129 0) = some true := H; have A72 := Aside0.mk A720; clear A720; have H' := Aside0.mk H; clear H; obtain ⟨hcz73_0, hcz73_1, hcz73_2, hfz73_0, hfz73_1, hfz73_2⟩ := bc3 BK108; go_wp2_with (first | ((with_reducible refine gate_callee (f := 18) rfl ?_); refine goesL_ (some 118) rfl rfl Try.func18 (by kernel_rfl) rfl #[.agg #[.int .i64 t101, .int .i64 t102, .slice Ao9 t103.length co9], .int .i64 t106, .int .i64 (wrap64 (t107 + 1))] rfl ul ?_; (with_reducible refine (impl_PlanAll.calls k2 t101 t102 _ _ t103 t106 (wrap64 (t107 + 1)) t129 _ ?side1 ?side2 A72.out).mono ?_); (case side1 => exact uD (Kd.R_reads' HO_109002.out).2.2); (case side2 => exact (Kd.R_reads' HO_109002.out).2.1); rintro e w74 ⟨v130, rfl, ho0, hb⟩; refine ⟨_, rfl, ?_⟩; replace HO_109002 := Aside0.mk (Kd.R_below (ur HO_109002) hb); have HO131 := Aside0.mk (Kd.R_lower (Kd.R_new' ho0 (Kd.R_lt (ur HO_6))) (below_size (uB1 HB GE108.out))); replace HO_6 := Aside0.mk (Kd.R_elder' (ur HO_6) (Kd.R_base ho0) hb); replace BK108 := bb BK108 hb; replace HB := Aside0.mk (below_step (uB1 HB GE108.out) hb); (try clear hb); (try clear hb2); (try clear hk); (try clear hi); (try clear ho0))); go_loopg [11] k2 (fun kq v11 w' => ∃ (x11_3 : Int), v11 = .int .i64 x11_3 ∧ Aside0 (laws_FnPlanAll.l2 kq t106 t107 t109 t129 x11_3 = some true) ∧ Aside0 (kq ≤ k2) ∧ Aside0 (Kd.R (Kd.int .i64) 3 w' w.heap.size (fun k_ => some k_ ≠ (v130 : Value).ownBlock) v110 t109) ∧ Aside0 (Kd.R (Kd.int .i64) 3 w' w.heap.size (fun k_ => some k_ ≠ (v110 : Value).ownBlock) v130 t129) ∧ Aside0 (Kd.R k32 32 w' w.heap.size (fun _ => True) (.slice Ao9 t103.length co9) t103) ∧ Aside0 (w'.heap[gb108]? = some (.cells #[.int .i64 t101, .int .i64 t102, (.slice Ao9 t103.length co9)] 25 (0, 0))) ∧ Aside0 (Below w.heap.size w w'))
        case atStart => exact ⟨(0), ue, H', ⟨Nat.le_refl _⟩, ⟨by (with_reducible repeat (first | apply Kd.R_alloc | apply Kd.R_drewN | apply Kd.R_drew)); exact Kd.R_mono HO_6.out (fun _ hk => hk.2)⟩, ⟨by (with_reducible repeat (first | apply Kd.R_alloc | apply Kd.R_drewN | apply Kd.R_drew)); exact Kd.R_mono HO131.out (fun _ hk => hk.2)⟩, ⟨ur HO_109002⟩, ⟨ub BK108⟩, ⟨uB1 HB GE108.out⟩⟩
        case round =>
         clear H'; try clear c1
         try clear p1
         try clear q1
         try clear hx1
         try clear p2
         try clear c4
         try clear c5
         try clear c6
         try clear p6
         try clear p12
         try clear q12
         try clear hx12
         try clear c18
         try clear c45
         try clear c45b0
         try clear c53
         try clear c53b0
         try clear c54
         try clear c57
         try clear c57b0
         try clear c58
         try clear c58b0
         try clear c58b1
         try clear c59
         try clear c59b0
         try clear c60
         try clear c60b0
         try clear p64
         try clear c66
         try clear c67
         try clear c67b0
         try clear c68
         try clear c68b0
         try clear c69
         try clear c69b0
         try clear hcz61_0 hcz61_1 hcz61_2
         try clear hcz64_0 hcz64_1 hcz64_2
         try clear hcz70_0 hcz70_1 hcz70_2
         try clear hcz73_0 hcz73_1 hcz73_2
         try clear hfz61_0 hfz61_1 hfz61_2
         try clear hfz64_0 hfz64_1 hfz64_2
         try clear hfz70_0 hfz70_1 hfz70_2
         try clear hfz73_0 hfz73_1 hfz73_2
         try clear hx125_0
         try clear hx125_1
         try clear hx125_2
         try clear hx125_3
         try clear hx125_4
         try clear hx126_0
         try clear hx126_1
         try clear hx126_2
         try clear hx126_3
         try clear hx126_4
         try clear hx127_0
         try clear hx128_0
         try clear p125
         try clear p126
         try clear p127
         try clear p128
         try clear q125
         try clear q126
         try clear q127
         try clear q128
         obtain ⟨x11_3, rfl, HA, HK3, HO_6, HO_10, HO_109002, BK108, HB⟩ := hrel
         cases gk with
         | zero => exact absurd HA.out (by simp [laws_FnPlanAll.l2])
         | succ k3 =>
          have H := HA.out; clear HA; simp only [laws_FnPlanAll.l2] at H; by_cases c75 : x11_3 < (t129.length : Int)
          ·
           rw [if_pos c75] at H; have c75b0 : decide (x11_3 < (t129.length : Int)) = true := decide_eq_true c75; clear c75; by_cases c76 : 0 ≤ x11_3
           ·
            rw [if_pos c76] at H; have c76b0 : decide (0 ≤ x11_3) = true := decide_eq_true c76; clear c76; by_cases c77 : x11_3 < (t109.length : Int)
            ·
             rw [if_pos c77] at H; have c77b0 : decide (x11_3 < (t109.length : Int)) = true := decide_eq_true c77; clear c77; by_cases c78 : (rd t129 x11_3) < (rd t109 x11_3)
             ·
              rw [if_pos c78] at H; have c78b0 : decide ((rd t129 x11_3) < (rd t109 x11_3)) = true := decide_eq_true c78; clear c78; exact absurd H (by simp)
             ·
              rw [if_neg c78] at H; have c78b0 : decide ((rd t129 x11_3) < (rd t109 x11_3)) = false := decide_eq_false c78; clear c78; have H' := Aside0.mk H; clear H; obtain ⟨Ao79, co79, eo79⟩ := Kd.R_slice HO_10.out; subst eo79; try go_wp2
              replace HO_6 := Aside0.mk (Kd.R_drew HO_6.out); replace HO_10 := Aside0.mk (Kd.R_drew HO_10.out); replace HO_109002 := Aside0.mk (Kd.R_drew HO_109002.out); replace BK108 := Aside0.mk (blk_drew BK108.out); replace HB := Aside0.mk (below_drew1 HB.out); have p132 : 0 ≤ (x11_3 : Int) := ua; have q132 : x11_3 < (t129.length : Int) := ua; obtain ⟨ad132, e132, hx132_0⟩ := Kd.at_int (Kd.R_reads' HO_10.out).2.2 x11_3 p132 q132
              cases e132
              replace p132 := eq_true p132; replace q132 := eq_true q132; obtain ⟨Ao81, co81, eo81⟩ := Kd.R_slice HO_6.out; (first | subst eo81 | (injection eo81 with f1_ f2_ f3_; have f4_ := f1_.symm; have f5_ := f3_.symm; clear f1_ f2_ f3_; subst f4_; subst f5_)); have p133 : 0 ≤ (x11_3 : Int) := ua; have q133 : x11_3 < (t109.length : Int) := ua; obtain ⟨ad133, e133, hx133_0⟩ := Kd.at_int (Kd.R_reads' HO_6.out).2.2 x11_3 p133 q133
              cases e133
              replace p133 := eq_true p133; replace q133 := eq_true q133; refine start_ (n := 9) (S := fun w' => w'.cell? (ad132.add (x11_3).toNat) = some (.int .i64 (rd t129 x11_3)) ∧ w'.cell? (ad133.add (x11_3).toNat) = some (.int .i64 (rd t109 x11_3))) (ds := []) #[false,false,false,false,false,false,false,false,false] (by kernel_rfl) rfl rfl ⟨hx132_0, hx133_0⟩ (fun hHeld => ?_); refine with_tabW laws_FnPlanAll.tab21 laws_FnPlanAll.bits21 (fun HT_ HW_ => ?_); generalize wr.drew = w80 at HO_6 HO_10 HO_109002 BK108 HB hx132_0 hx133_0 hHeld ⊢; refine pz HT_ 0 125 (zt 9 1) rfl rfl ?_; refine pz HT_ 1 126 (zt 9 3) rfl rfl ?_; refine pz HT_ 2 127 (zt 9 7) rfl rfl ?_; refine pz HT_ 4 129 (zt 9 23) rfl rfl ?_; refine pz HT_ 5 130 (zt 9 55) rfl rfl ?_; refine pz HT_ 6 131 (zt 9 119) rfl rfl ?_; refine pt HT_ HW_ 3 128 (zt 9 127) rfl rfl hHeld (by rintro w' ⟨s0, s1⟩; go_simp; with_reducible rfl) ?_; refine pt HT_ HW_ 7 132 (zt 9 255) rfl rfl hHeld (by rintro w' ⟨s0, s1⟩; go_simp; with_reducible rfl) ?_; refine pz HT_ 8 133 (zt 9 511) rfl rfl ?_; refine done_ (done_of HT_.out (by kernel_rfl)) ?_; try go_wp2
              go_roundg k3
              case measure => have := HJ4.out; have := HK2.out; have := HK3.out; omega
              case rel => exact ⟨(wrap64 (x11_3 + 1)), ue, H', ⟨by have := HJ4.out; have := HK2.out; have := HK3.out; omega⟩, ⟨ur HO_6⟩, ⟨ur HO_10⟩, ⟨ur HO_109002⟩, ⟨ub BK108⟩, ⟨uB1 HB GE108.out⟩⟩
            ·
             rw [if_neg c77] at H; exact absurd H (by simp)
           ·
            rw [if_neg c76] at H; exact absurd H (by simp)
          ·
           rw [if_neg c75] at H; have c75b0 : decide (x11_3 < (t129.length : Int)) = false := decide_eq_false c75; clear c75; by_cases c82 : 0 ≤ t106
           ·
            rw [if_pos c82] at H; have c82b0 : decide (0 ≤ t106) = true := decide_eq_true c82; clear c82; by_cases c83 : t106 < (t109.length : Int)
            ·
             rw [if_pos c83] at H; have c83b0 : decide (t106 < (t109.length : Int)) = true := decide_eq_true c83; clear c83; have HE_ := Aside0.mk (Option.some.inj H); clear H; obtain ⟨Ao84, co84, eo84⟩ := Kd.R_slice HO_10.out; subst eo84; obtain ⟨Ao85, co85, eo85⟩ := Kd.R_slice HO_6.out; subst eo85; have p134 : 0 ≤ (t106 : Int) := ua; have q134 : t106 < (t109.length : Int) := ua; obtain ⟨ad134, e134, hx134_0⟩ := Kd.at_int (Kd.R_reads' HO_6.out).2.2 t106 p134 q134
             cases e134
             replace p134 := eq_true p134; replace q134 := eq_true q134; go_wp2; go_ret; exact ⟨by first | rfl | (simp [errW_none, errW_some] <;> rfl) | (simp [*, errW_none, errW_some] <;> rfl) | exact congrArg (fun b_ => Ending.returned (Value.bool b_)) HE_.out, uB1 HB GE108.out⟩
            ·
             rw [if_neg c83] at H; exact absurd H (by simp)
           ·
            rw [if_neg c82] at H; exact absurd H (by simp)

/-- THE ONE PURE STATEMENT of laws_FnPlanAll: yours. -/
def laws_FnPlanAll.Pure : Prop := ∀ (l0 : List Int), l0.length ≤ maxLen → l0.length * 1 ≤ 140737488351232 → (∀ x ∈ l0, (Lit.int .u8 x).wf = true) → ∃ k, laws_FnPlanAll.f k l0 = some true
theorem laws_FnPlanAll.walk (P : laws_FnPlanAll.Pure) (a0 : Option Addr) (len0 cap0 : Nat) (z0 : List Int) (w : World) (w0 : (a0 = none ∧ len0 = 0 ∧ cap0 = 0 ∧ z0 = []) ∨ ∃ x, a0 = some x ∧ len0 ≤ cap0 ∧ cap0 ≤ maxLen ∧ z0.length = cap0 ∧ (∀ i, i < z0.length → w.cell? (x.add i) = some (.int .u8 (z0.getD i 0))) ∧ ∀ n ∈ z0, (Lit.int .u8 n).wf = true) (y0 : len0 * 1 ≤ 140737488351232) :
  Calls Try.prog 5 #[.slice a0 len0 cap0] w fun e w' => e = .returned (.bool true) ∧ Below w.heap.size w w' := by
 obtain ⟨l0, rfl, hr0, hm0, hw0, hc0⟩ := ReadsInt.ofRowC w0
 obtain ⟨k, h⟩ := P l0 hm0 y0 hw0
 refine (laws_FnPlanAll.calls k _ _ l0 w (Kd.C_of_reads (d := (0 : Int)) (h1 := fun _ => rfl) hr0) hc0 h).mono ?_
 rintro e w' ⟨rfl, hd⟩
 exact ⟨rfl, hd⟩

end Go.Proofs.Ytcklifkbodmoaaa.P
