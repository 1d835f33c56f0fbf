-- written for this claim by a program (wip/gen/myprint.py over the print tool). Not trusted: Lean checks it.
import Derived.Test.YtcklifkbodmoaaaPx0
import Derived.Test.YtcklifkbodmoaaaHUp
import Derived.Test.YtcklifkbodmoaaaPFSpecDrawplanall
import Derived.Test.YtcklifkbodmoaaaPFImplPlanall
import Derived.Test.YtcklifkbodmoaaaGWk
import Derived.Test.YtcklifkbodmoaaaPFSpecPlanall
namespace Go.Proofs.Ytcklifkbodmoaaa.P
open Go.RowKit Go.Proofs.YtcklifkbodmoaaaV.PrintWords Go.Proofs.YtcklifkbodmoaaaV.PrintLast
set_option linter.unusedVariables false
set_option linter.unusedSimpArgs false

/-! ### laws_FnPlanConn: function 3 -/
mutual
def laws_FnPlanConn.j0 : Nat → Int → Int → List Int → Bool → Int → Int → List (S32) → Option (Bool)
 | 0, _, _, _, _, _, _, _ => none
 | k + 1, x4, x5, x6, x35, x109000, x109001, x109002 => if x35 = true then ((spec_PlanAll.f k x109000 x109001 x109002 x4 x5).bind fun t116 => ((laws_wkInts.f k x6 t116).bind fun t119 => (some t119))) else (laws_FnPlanConn.l0 k x4 x5 x6 0 x109000 x109001 x109002)
def laws_FnPlanConn.l0 : Nat → Int → Int → List Int → Int → Int → Int → List (S32) → Option (Bool)
 | 0, _, _, _, _, _, _, _ => none
 | k + 1, x4, x5, x6, x7, x109000, x109001, x109002 => if x7 < (x109002.length : Int) then (if 0 ≤ x7 then (if ((rd_T32 x109002 x7).f0) = x4 then (if x5 ≤ ((rd_T32 x109002 x7).f2) then (laws_FnPlanConn.j2 k x4 x5 x6 x7 true x109000 x109001 x109002 ((rd_T32 x109002 x7).f0) ((rd_T32 x109002 x7).f1) ((rd_T32 x109002 x7).f2) ((rd_T32 x109002 x7).f3) ((rd_T32 x109002 x7).f4)) else (laws_FnPlanConn.j2 k x4 x5 x6 x7 false x109000 x109001 x109002 ((rd_T32 x109002 x7).f0) ((rd_T32 x109002 x7).f1) ((rd_T32 x109002 x7).f2) ((rd_T32 x109002 x7).f3) ((rd_T32 x109002 x7).f4))) else (if 0 ≤ ((rd_T32 x109002 x7).f0) then (if ((rd_T32 x109002 x7).f0) < (x6.length : Int) then (if (rd x6 ((rd_T32 x109002 x7).f0)) < 99999 then (laws_FnPlanConn.j2 k x4 x5 x6 x7 (decide ((wrap64 ((rd x6 ((rd_T32 x109002 x7).f0)) + x109001)) ≤ ((rd_T32 x109002 x7).f2))) x109000 x109001 x109002 ((rd_T32 x109002 x7).f0) ((rd_T32 x109002 x7).f1) ((rd_T32 x109002 x7).f2) ((rd_T32 x109002 x7).f3) ((rd_T32 x109002 x7).f4)) else (laws_FnPlanConn.j2 k x4 x5 x6 x7 false x109000 x109001 x109002 ((rd_T32 x109002 x7).f0) ((rd_T32 x109002 x7).f1) ((rd_T32 x109002 x7).f2) ((rd_T32 x109002 x7).f3) ((rd_T32 x109002 x7).f4))) else (none)) else (none))) else (none)) else (some true)
def laws_FnPlanConn.j2 : Nat → Int → Int → List Int → Int → Bool → Int → Int → List (S32) → Int → Int → Int → Int → Int → Option (Bool)
 | 0, _, _, _, _, _, _, _, _, _, _, _, _, _ => none
 | k + 1, x4, x5, x6, x7, x9, x109000, x109001, x109002, x122000, x122001, x122002, x122003, x122004 => laws_FnPlanConn.l1 k x4 x5 x6 x7 x9 x7 x109000 x109001 x109002 x122000 x122001 x122002 x122003 x122004
def laws_FnPlanConn.l1 : Nat → Int → Int → List Int → Int → Bool → Int → Int → Int → List (S32) → Int → Int → Int → Int → Int → Option (Bool)
 | 0, _, _, _, _, _, _, _, _, _, _, _, _, _, _ => none
 | k + 1, x4, x5, x6, x7, x9, x10, x109000, x109001, x109002, x122000, x122001, x122002, x122003, x122004 => if x10 < (x109002.length : Int) then (laws_FnPlanConn.j4 k x4 x5 x6 x7 x9 x10 x9 x109000 x109001 x109002 x122000 x122001 x122002 x122003 x122004) else (laws_FnPlanConn.j4 k x4 x5 x6 x7 x9 x10 false x109000 x109001 x109002 x122000 x122001 x122002 x122003 x122004)
def laws_FnPlanConn.j4 : Nat → Int → Int → List Int → Int → Bool → Int → Bool → Int → Int → List (S32) → Int → Int → Int → Int → Int → Option (Bool)
 | 0, _, _, _, _, _, _, _, _, _, _, _, _, _, _, _ => none
 | k + 1, x4, x5, x6, x7, x9, x10, x99, x109000, x109001, x109002, x122000, x122001, x122002, x122003, x122004 => if x99 = true then (if 0 ≤ x10 then (if x10 < (x109002.length : Int) then (if ((rd_T32 x109002 x10).f4) = x122004 then (if 0 ≤ ((rd_T32 x109002 x10).f1) then (if ((rd_T32 x109002 x10).f1) < (x6.length : Int) then (if (rd x6 ((rd_T32 x109002 x10).f1)) > ((rd_T32 x109002 x10).f3) then (some false) else (laws_FnPlanConn.l1 k x4 x5 x6 x7 x9 (wrap64 (x10 + 1)) x109000 x109001 x109002 x122000 x122001 x122002 x122003 x122004)) else (none)) else (none)) else (laws_FnPlanConn.l1 k x4 x5 x6 x7 x9 (wrap64 (x10 + 1)) x109000 x109001 x109002 x122000 x122001 x122002 x122003 x122004)) else (none)) else (none)) else (laws_FnPlanConn.l0 k x4 x5 x6 (wrap64 (x7 + 1)) x109000 x109001 x109002)
end
def laws_FnPlanConn.f (k : Nat) (l0 : List Int) : Option (Bool) := if (l0.length : Int) > 1048576 then (some true) else ((spec_DrawPlanAll.f k l0).bind fun bt101 => ((impl_PlanAll.f k bt101.1 bt101.2.1 bt101.2.2.1 bt101.2.2.2.1 bt101.2.2.2.2).bind fun t109 => ((spec_PlanAll.f k bt101.1 bt101.2.1 bt101.2.2.1 bt101.2.2.2.1 bt101.2.2.2.2).bind fun t112 => ((laws_wkInts.f k t109 t112).bind fun t115 => (if t115 = true then (laws_FnPlanConn.j0 k bt101.2.2.2.1 bt101.2.2.2.2 t109 ((t109.length : Int) == 0) bt101.1 bt101.2.1 bt101.2.2.1) else (laws_FnPlanConn.j0 k bt101.2.2.2.1 bt101.2.2.2.2 t109 true bt101.1 bt101.2.1 bt101.2.2.1))))))
set_option maxHeartbeats 8000000 in
set_option maxRecDepth 100000 in
theorem laws_FnPlanConn.calls (k : Nat) (A0 : Option Addr) (c0 : Nat) (l0 : List Int) (w : World) (hr0 : Kd.C (Kd.int .u8) w A0 l0.length l0) (hc0 : l0.length ≤ c0) (h : laws_FnPlanConn.f k l0 = some true) :
  Calls Try.prog 3 #[.slice A0 l0.length c0] w fun e w' => e = .returned (.bool true) ∧ Below w.heap.size w w' := by
 have hu25 := Try.underlying25
 have hu32 := Try.underlying32
 have HR0 := Aside0.mk hr0
 have HC0 := Aside0.mk hc0
 clear hr0 hc0
 have HB := Aside0.mk (Below.refl w.heap.size w)
 have H : (if (l0.length : Int) > 1048576 then (some true) else ((spec_DrawPlanAll.f k l0).bind fun bt101 => ((impl_PlanAll.f k bt101.1 bt101.2.1 bt101.2.2.1 bt101.2.2.2.1 bt101.2.2.2.2).bind fun t109 => ((spec_PlanAll.f k bt101.1 bt101.2.1 bt101.2.2.1 bt101.2.2.2.1 bt101.2.2.2.2).bind fun t112 => ((laws_wkInts.f k t109 t112).bind fun t115 => (if t115 = true then (laws_FnPlanConn.j0 k bt101.2.2.2.1 bt101.2.2.2.2 t109 ((t109.length : Int) == 0) bt101.1 bt101.2.1 bt101.2.2.1) else (laws_FnPlanConn.j0 k bt101.2.2.2.1 bt101.2.2.2.2 t109 true bt101.1 bt101.2.1 bt101.2.2.1))))))) = some true := h
 clear h
 by_cases c2 : (l0.length : Int) > 1048576
 ·
  rw [if_pos c2] at H; have c2b0 : decide (1048576 < (l0.length : Int)) = true := decide_eq_true c2; have c2b1 : decide (1048576 < l0.length) = true := decide_eq_true (by omega); clear c2; clear H; go_enter Try.func3, Try.ntmps3; go_wp2
  repeat (go_quiet (fail); try go_wp2)
  go_ret; exact ⟨by first | rfl | (simp [errW_none, errW_some] <;> rfl) | (simp [*, errW_none, errW_some] <;> rfl) | exact congrArg (fun b_ => Ending.returned (Value.bool b_)) HE_.out, uB0 HB⟩
 ·
  rw [if_neg c2] at H; have c2b0 : decide (1048576 < (l0.length : Int)) = false := decide_eq_false c2; have c2b1 : decide (1048576 < l0.length) = false := decide_eq_false (by omega); clear c2; replace H := Option.bind_eq_some_iff.mp H; obtain ⟨⟨t101, t102, t103, t106, t107⟩, A30, H⟩ := H; replace H : ((impl_PlanAll.f k t101 t102 t103 t106 t107).bind fun t109 => ((spec_PlanAll.f k t101 t102 t103 t106 t107).bind fun t112 => ((laws_wkInts.f k t109 t112).bind fun t115 => (if t115 = true then (laws_FnPlanConn.j0 k t106 t107 t109 ((t109.length : Int) == 0) t101 t102 t103) else (laws_FnPlanConn.j0 k t106 t107 t109 true t101 t102 t103))))) = some true := H; have A3 := Aside0.mk A30; clear A30; replace H := Option.bind_eq_some_iff.mp H; obtain ⟨t109, A40, H⟩ := H; replace H : ((spec_PlanAll.f k t101 t102 t103 t106 t107).bind fun t112 => ((laws_wkInts.f k t109 t112).bind fun t115 => (if t115 = true then (laws_FnPlanConn.j0 k t106 t107 t109 ((t109.length : Int) == 0) t101 t102 t103) else (laws_FnPlanConn.j0 k t106 t107 t109 true t101 t102 t103)))) = some true := H; have A4 := Aside0.mk A40; clear A40; have HC5 := Aside0.mk H; clear H; go_enter Try.func3, Try.ntmps3; go_upto_region 5 with (first | (go_at_call 17; (with_reducible refine (spec_DrawPlanAll.calls k _ _ l0 t101 t102 t103 t106 t107 _ ?side1 ?side2 A3.out).mono ?_); (case side1 => repeat (first | exact HR0.out | (with_reducible refine Kd.C_alloc ?_ _) | (with_reducible refine Kd.C_drewN ?_ _) | (with_reducible refine Kd.C_drew ?_))); (case side2 => exact HC0.out); rintro e w6 ⟨v104, rfl, ho0, hb⟩; have HO105 := Aside0.mk (Kd.R_lower ho0 (below_size (uB0 HB))); replace HB := Aside0.mk (below_step (uB0 HB) hb); (try clear hb); (try clear hb2); (try clear hk); (try clear hi); (try clear ho0)) | ((with_reducible refine gate_dst (N := 3) rfl ?_); refine be (cs := #[.int .i64 0, .int .i64 0, .slice none 0 0]) (t := 25) ?_; intro gb108 hg w7 hbox hb; replace HO105 := Aside0.mk (Kd.R_below (ur HO105) hb); have BK108 := Aside0.mk (hbox); have GW108 := gz w hg (uB0 HB); have GE108 := gz w hg (uB0 HB); replace HB := Aside0.mk (below_step (uB0 HB) hb); clear hb hbox hg; obtain ⟨hcz8_0, hcz8_1, hcz8_2, hfz8_0, hfz8_1, hfz8_2⟩ := bc3 BK108; obtain ⟨Ao9, co9, eo9⟩ := Kd.R_slice HO105.out; subst eo9) | (go_at_call 18; (with_reducible refine (impl_PlanAll.calls k t101 t102 _ _ t103 t106 t107 t109 _ ?side1 ?side2 A4.out).mono ?_); (case side1 => refine (Kd.R_reads' (e := 32) (base := w.heap.size) (ok := fun k_ => True) (n := t103.length) (c := co9) ?_).2.2; exact (by (with_reducible repeat (first | apply Kd.R_alloc | apply Kd.R_drewN | apply Kd.R_drew)); exact (Kd.R_mono (rf3 HO105 BK108) (fun _ h_ => h_.1)))); (case side2 => exact (Kd.R_reads' HO105.out).2.1); rintro e w10 ⟨v110, rfl, ho0, hb⟩; replace HO105 := Aside0.mk (Kd.R_below (by (with_reducible repeat (first | apply Kd.R_alloc | apply Kd.R_drewN | apply Kd.R_drew)); exact (Kd.R_mono (rf3 HO105 BK108) (fun _ h_ => h_.1))) hb); have HO111 := Aside0.mk (Kd.R_lower ho0 (below_size (uB1 HB GE108.out))); replace BK108 := Aside0.mk (blk_below (g := gb108) (o := .cells #[.int .i64 t101, .int .i64 t102, .slice Ao9 t103.length co9] 25 (0, 0)) (by (with_reducible repeat first | apply zbn | apply zbd | apply zba); refine pu3 (.int .i64 0) (.int .i64 0) (.slice none 0 0) ?_; exact ub BK108) hb); replace HB := Aside0.mk (below_step (uB1 HB GE108.out) hb); (try clear hb); (try clear hb2); (try clear hk); (try clear hi); (try clear ho0)))
  repeat (go_quiet (first | (go_at_call 17; (with_reducible refine (spec_DrawPlanAll.calls k _ _ l0 t101 t102 t103 t106 t107 _ ?side1 ?side2 A3.out).mono ?_); (case side1 => repeat (first | exact HR0.out | (with_reducible refine Kd.C_alloc ?_ _) | (with_reducible refine Kd.C_drewN ?_ _) | (with_reducible refine Kd.C_drew ?_))); (case side2 => exact HC0.out); rintro e w6 ⟨v104, rfl, ho0, hb⟩; have HO105 := Aside0.mk (Kd.R_lower ho0 (below_size (uB0 HB))); replace HB := Aside0.mk (below_step (uB0 HB) hb); (try clear hb); (try clear hb2); (try clear hk); (try clear hi); (try clear ho0)) | ((with_reducible refine gate_dst (N := 3) rfl ?_); refine be (cs := #[.int .i64 0, .int .i64 0, .slice none 0 0]) (t := 25) ?_; intro gb108 hg w7 hbox hb; replace HO105 := Aside0.mk (Kd.R_below (ur HO105) hb); have BK108 := Aside0.mk (hbox); have GW108 := gz w hg (uB0 HB); have GE108 := gz w hg (uB0 HB); replace HB := Aside0.mk (below_step (uB0 HB) hb); clear hb hbox hg; obtain ⟨hcz8_0, hcz8_1, hcz8_2, hfz8_0, hfz8_1, hfz8_2⟩ := bc3 BK108; obtain ⟨Ao9, co9, eo9⟩ := Kd.R_slice HO105.out; subst eo9) | (go_at_call 18; (with_reducible refine (impl_PlanAll.calls k t101 t102 _ _ t103 t106 t107 t109 _ ?side1 ?side2 A4.out).mono ?_); (case side1 => refine (Kd.R_reads' (e := 32) (base := w.heap.size) (ok := fun k_ => True) (n := t103.length) (c := co9) ?_).2.2; exact (by (with_reducible repeat (first | apply Kd.R_alloc | apply Kd.R_drewN | apply Kd.R_drew)); exact (Kd.R_mono (rf3 HO105 BK108) (fun _ h_ => h_.1)))); (case side2 => exact (Kd.R_reads' HO105.out).2.1); rintro e w10 ⟨v110, rfl, ho0, hb⟩; replace HO105 := Aside0.mk (Kd.R_below (by (with_reducible repeat (first | apply Kd.R_alloc | apply Kd.R_drewN | apply Kd.R_drew)); exact (Kd.R_mono (rf3 HO105 BK108) (fun _ h_ => h_.1))) hb); have HO111 := Aside0.mk (Kd.R_lower ho0 (below_size (uB1 HB GE108.out))); replace BK108 := Aside0.mk (blk_below (g := gb108) (o := .cells #[.int .i64 t101, .int .i64 t102, .slice Ao9 t103.length co9] 25 (0, 0)) (by (with_reducible repeat first | apply zbn | apply zbd | apply zba); refine pu3 (.int .i64 0) (.int .i64 0) (.slice none 0 0) ?_; exact ub BK108) hb); replace HB := Aside0.mk (below_step (uB1 HB GE108.out) hb); (try clear hb); (try clear hb2); (try clear hk); (try clear hi); (try clear ho0))); go_upto_region 5 with (first | (go_at_call 17; (with_reducible refine (spec_DrawPlanAll.calls k _ _ l0 t101 t102 t103 t106 t107 _ ?side1 ?side2 A3.out).mono ?_); (case side1 => repeat (first | exact HR0.out | (with_reducible refine Kd.C_alloc ?_ _) | (with_reducible refine Kd.C_drewN ?_ _) | (with_reducible refine Kd.C_drew ?_))); (case side2 => exact HC0.out); rintro e w6 ⟨v104, rfl, ho0, hb⟩; have HO105 := Aside0.mk (Kd.R_lower ho0 (below_size (uB0 HB))); replace HB := Aside0.mk (below_step (uB0 HB) hb); (try clear hb); (try clear hb2); (try clear hk); (try clear hi); (try clear ho0)) | ((with_reducible refine gate_dst (N := 3) rfl ?_); refine be (cs := #[.int .i64 0, .int .i64 0, .slice none 0 0]) (t := 25) ?_; intro gb108 hg w7 hbox hb; replace HO105 := Aside0.mk (Kd.R_below (ur HO105) hb); have BK108 := Aside0.mk (hbox); have GW108 := gz w hg (uB0 HB); have GE108 := gz w hg (uB0 HB); replace HB := Aside0.mk (below_step (uB0 HB) hb); clear hb hbox hg; obtain ⟨hcz8_0, hcz8_1, hcz8_2, hfz8_0, hfz8_1, hfz8_2⟩ := bc3 BK108; obtain ⟨Ao9, co9, eo9⟩ := Kd.R_slice HO105.out; subst eo9) | (go_at_call 18; (with_reducible refine (impl_PlanAll.calls k t101 t102 _ _ t103 t106 t107 t109 _ ?side1 ?side2 A4.out).mono ?_); (case side1 => refine (Kd.R_reads' (e := 32) (base := w.heap.size) (ok := fun k_ => True) (n := t103.length) (c := co9) ?_).2.2; exact (by (with_reducible repeat (first | apply Kd.R_alloc | apply Kd.R_drewN | apply Kd.R_drew)); exact (Kd.R_mono (rf3 HO105 BK108) (fun _ h_ => h_.1)))); (case side2 => exact (Kd.R_reads' HO105.out).2.1); rintro e w10 ⟨v110, rfl, ho0, hb⟩; replace HO105 := Aside0.mk (Kd.R_below (by (with_reducible repeat (first | apply Kd.R_alloc | apply Kd.R_drewN | apply Kd.R_drew)); exact (Kd.R_mono (rf3 HO105 BK108) (fun _ h_ => h_.1))) hb); have HO111 := Aside0.mk (Kd.R_lower ho0 (below_size (uB1 HB GE108.out))); replace BK108 := Aside0.mk (blk_below (g := gb108) (o := .cells #[.int .i64 t101, .int .i64 t102, .slice Ao9 t103.length co9] 25 (0, 0)) (by (with_reducible repeat first | apply zbn | apply zbd | apply zba); refine pu3 (.int .i64 0) (.int .i64 0) (.slice none 0 0) ?_; exact ub BK108) hb); replace HB := Aside0.mk (below_step (uB1 HB GE108.out) hb); (try clear hb); (try clear hb2); (try clear hk); (try clear hi); (try clear ho0))))
  (try simp only [Act.put, List.setIfInBounds_toArray, List.set_cons_zero, List.set_cons_succ]); go_cut [35] (fun v35 wc => ∃ (kq : Nat) (x35_4 : Bool), v35 = .bool x35_4 ∧ Aside0 (laws_FnPlanConn.j0 kq t106 t107 t109 x35_4 t101 t102 t103 = some true) ∧ Aside0 (kq ≤ k) ∧ Aside0 (Kd.R (Kd.int .i64) 3 wc w.heap.size (fun _ => True) v110 t109) ∧ Aside0 (Kd.R k32 32 wc w.heap.size (fun _ => True) (.slice Ao9 t103.length co9) t103) ∧ Aside0 (wc.heap[gb108]? = some (.cells #[.int .i64 t101, .int .i64 t102, (.slice Ao9 t103.length co9)] 25 (0, 0))) ∧ Aside0 (Below w.heap.size w wc))
  case first =>
   have H := HC5.out; clear HC5; replace H := Option.bind_eq_some_iff.mp H; obtain ⟨t112, A110, H⟩ := H; replace H : ((laws_wkInts.f k t109 t112).bind fun t115 => (if t115 = true then (laws_FnPlanConn.j0 k t106 t107 t109 ((t109.length : Int) == 0) t101 t102 t103) else (laws_FnPlanConn.j0 k t106 t107 t109 true t101 t102 t103))) = some true := H; have A11 := Aside0.mk A110; clear A110; replace H := Option.bind_eq_some_iff.mp H; obtain ⟨t115, A120, H⟩ := H; replace H : (if t115 = true then (laws_FnPlanConn.j0 k t106 t107 t109 ((t109.length : Int) == 0) t101 t102 t103) else (laws_FnPlanConn.j0 k t106 t107 t109 true t101 t102 t103)) = some true := H; have A12 := Aside0.mk A120; clear A120; by_cases c13 : t115 = true
   ·
    subst c13; rw [if_pos rfl] at H; have H' := Aside0.mk H; clear H; obtain ⟨hcz14_0, hcz14_1, hcz14_2, hfz14_0, hfz14_1, hfz14_2⟩ := bc3 BK108; go_wp2_with (first | (go_at_call 20; (with_reducible refine (spec_PlanAll.calls k t101 t102 _ _ t103 t106 t107 t112 _ ?side1 ?side2 A11.out).mono ?_); (case side1 => exact uD (Kd.R_reads' HO105.out).2.2); (case side2 => exact (Kd.R_reads' HO105.out).2.1); rintro e w15 ⟨v113, rfl, ho0, hb⟩; replace HO105 := Aside0.mk (Kd.R_below (ur HO105) hb); have HO114 := Aside0.mk (Kd.R_lower (Kd.R_new' ho0 (Kd.R_lt (ur HO111))) (below_size (uB1 HB GE108.out))); replace HO111 := Aside0.mk (Kd.R_elder' (ur HO111) (Kd.R_base ho0) hb); replace BK108 := bb BK108 hb; replace HB := Aside0.mk (below_step (uB1 HB GE108.out) hb); (try clear hb); (try clear hb2); (try clear hk); (try clear hi); (try clear ho0); obtain ⟨Ao16, co16, eo16⟩ := Kd.R_slice HO111.out; subst eo16; obtain ⟨Ao17, co17, eo17⟩ := Kd.R_slice HO114.out; subst eo17) | (go_at_call 19; (with_reducible refine (laws_wkInts.calls k _ _ t109 _ _ t112 true _ ?side1 ?side2 ?side3 ?side4 A12.out).mono ?_); (case side1 => exact uD (Kd.R_reads' HO111.out).2.2); (case side2 => exact (Kd.R_reads' HO111.out).2.1); (case side3 => exact uD (Kd.R_reads' HO114.out).2.2); (case side4 => exact (Kd.R_reads' HO114.out).2.1); rintro e w' ⟨rfl, ⟨nd, rfl⟩⟩; (try first | exact ⟨rfl, _, World.drewN_drewN _ _ _⟩ | exact ⟨rfl, _, Eq.trans (World.drewN_drewN _ _ _) (congrArg (World.drewN _) (Nat.add_assoc _ _ _))⟩)))
    repeat (go_quiet (first | (go_at_call 20; (with_reducible refine (spec_PlanAll.calls k t101 t102 _ _ t103 t106 t107 t112 _ ?side1 ?side2 A11.out).mono ?_); (case side1 => exact uD (Kd.R_reads' HO105.out).2.2); (case side2 => exact (Kd.R_reads' HO105.out).2.1); rintro e w15 ⟨v113, rfl, ho0, hb⟩; replace HO105 := Aside0.mk (Kd.R_below (ur HO105) hb); have HO114 := Aside0.mk (Kd.R_lower (Kd.R_new' ho0 (Kd.R_lt (ur HO111))) (below_size (uB1 HB GE108.out))); replace HO111 := Aside0.mk (Kd.R_elder' (ur HO111) (Kd.R_base ho0) hb); replace BK108 := bb BK108 hb; replace HB := Aside0.mk (below_step (uB1 HB GE108.out) hb); (try clear hb); (try clear hb2); (try clear hk); (try clear hi); (try clear ho0); obtain ⟨Ao16, co16, eo16⟩ := Kd.R_slice HO111.out; subst eo16; obtain ⟨Ao17, co17, eo17⟩ := Kd.R_slice HO114.out; subst eo17) | (go_at_call 19; (with_reducible refine (laws_wkInts.calls k _ _ t109 _ _ t112 true _ ?side1 ?side2 ?side3 ?side4 A12.out).mono ?_); (case side1 => exact uD (Kd.R_reads' HO111.out).2.2); (case side2 => exact (Kd.R_reads' HO111.out).2.1); (case side3 => exact uD (Kd.R_reads' HO114.out).2.2); (case side4 => exact (Kd.R_reads' HO114.out).2.1); rintro e w' ⟨rfl, ⟨nd, rfl⟩⟩; (try first | exact ⟨rfl, _, World.drewN_drewN _ _ _⟩ | exact ⟨rfl, _, Eq.trans (World.drewN_drewN _ _ _) (congrArg (World.drewN _) (Nat.add_assoc _ _ _))⟩))); try go_wp2_with (first | (go_at_call 20; (with_reducible refine (spec_PlanAll.calls k t101 t102 _ _ t103 t106 t107 t112 _ ?side1 ?side2 A11.out).mono ?_); (case side1 => exact uD (Kd.R_reads' HO105.out).2.2); (case side2 => exact (Kd.R_reads' HO105.out).2.1); rintro e w15 ⟨v113, rfl, ho0, hb⟩; replace HO105 := Aside0.mk (Kd.R_below (ur HO105) hb); have HO114 := Aside0.mk (Kd.R_lower (Kd.R_new' ho0 (Kd.R_lt (ur HO111))) (below_size (uB1 HB GE108.out))); replace HO111 := Aside0.mk (Kd.R_elder' (ur HO111) (Kd.R_base ho0) hb); replace BK108 := bb BK108 hb; replace HB := Aside0.mk (below_step (uB1 HB GE108.out) hb); (try clear hb); (try clear hb2); (try clear hk); (try clear hi); (try clear ho0); obtain ⟨Ao16, co16, eo16⟩ := Kd.R_slice HO111.out; subst eo16; obtain ⟨Ao17, co17, eo17⟩ := Kd.R_slice HO114.out; subst eo17) | (go_at_call 19; (with_reducible refine (laws_wkInts.calls k _ _ t109 _ _ t112 true _ ?side1 ?side2 ?side3 ?side4 A12.out).mono ?_); (case side1 => exact uD (Kd.R_reads' HO111.out).2.2); (case side2 => exact (Kd.R_reads' HO111.out).2.1); (case side3 => exact uD (Kd.R_reads' HO114.out).2.2); (case side4 => exact (Kd.R_reads' HO114.out).2.1); rintro e w' ⟨rfl, ⟨nd, rfl⟩⟩; (try first | exact ⟨rfl, _, World.drewN_drewN _ _ _⟩ | exact ⟨rfl, _, Eq.trans (World.drewN_drewN _ _ _) (congrArg (World.drewN _) (Nat.add_assoc _ _ _))⟩))))
    go_meet
    case rel => exact ⟨_, (((t109.length : Int) == 0)), ue, H', ⟨by first | omega | exact Nat.le_refl _⟩, ⟨by (with_reducible repeat (first | apply Kd.R_alloc | apply Kd.R_drewN | apply Kd.R_drew)); exact Kd.R_mono HO111.out (fun _ hk => trivial)⟩, ⟨ur HO105⟩, ⟨ub BK108⟩, ⟨uB1 HB GE108.out⟩⟩
   ·
    replace c13 := Bool.eq_false_iff.mpr c13; subst c13; rw [if_neg (show ¬ (false = true) by decide)] at H; have H' := Aside0.mk H; clear H; obtain ⟨hcz18_0, hcz18_1, hcz18_2, hfz18_0, hfz18_1, hfz18_2⟩ := bc3 BK108; go_wp2_with (first | (go_at_call 20; (with_reducible refine (spec_PlanAll.calls k t101 t102 _ _ t103 t106 t107 t112 _ ?side1 ?side2 A11.out).mono ?_); (case side1 => exact uD (Kd.R_reads' HO105.out).2.2); (case side2 => exact (Kd.R_reads' HO105.out).2.1); rintro e w19 ⟨v113, rfl, ho0, hb⟩; replace HO105 := Aside0.mk (Kd.R_below (ur HO105) hb); have HO114 := Aside0.mk (Kd.R_lower (Kd.R_new' ho0 (Kd.R_lt (ur HO111))) (below_size (uB1 HB GE108.out))); replace HO111 := Aside0.mk (Kd.R_elder' (ur HO111) (Kd.R_base ho0) hb); replace BK108 := bb BK108 hb; replace HB := Aside0.mk (below_step (uB1 HB GE108.out) hb); (try clear hb); (try clear hb2); (try clear hk); (try clear hi); (try clear ho0); obtain ⟨Ao20, co20, eo20⟩ := Kd.R_slice HO111.out; subst eo20; obtain ⟨Ao21, co21, eo21⟩ := Kd.R_slice HO114.out; subst eo21) | (go_at_call 19; (with_reducible refine (laws_wkInts.calls k _ _ t109 _ _ t112 false _ ?side1 ?side2 ?side3 ?side4 A12.out).mono ?_); (case side1 => exact uD (Kd.R_reads' HO111.out).2.2); (case side2 => exact (Kd.R_reads' HO111.out).2.1); (case side3 => exact uD (Kd.R_reads' HO114.out).2.2); (case side4 => exact (Kd.R_reads' HO114.out).2.1); rintro e w' ⟨rfl, ⟨nd, rfl⟩⟩; (try first | exact ⟨rfl, _, World.drewN_drewN _ _ _⟩ | exact ⟨rfl, _, Eq.trans (World.drewN_drewN _ _ _) (congrArg (World.drewN _) (Nat.add_assoc _ _ _))⟩)))
    repeat (go_quiet (first | (go_at_call 20; (with_reducible refine (spec_PlanAll.calls k t101 t102 _ _ t103 t106 t107 t112 _ ?side1 ?side2 A11.out).mono ?_); (case side1 => exact uD (Kd.R_reads' HO105.out).2.2); (case side2 => exact (Kd.R_reads' HO105.out).2.1); rintro e w19 ⟨v113, rfl, ho0, hb⟩; replace HO105 := Aside0.mk (Kd.R_below (ur HO105) hb); have HO114 := Aside0.mk (Kd.R_lower (Kd.R_new' ho0 (Kd.R_lt (ur HO111))) (below_size (uB1 HB GE108.out))); replace HO111 := Aside0.mk (Kd.R_elder' (ur HO111) (Kd.R_base ho0) hb); replace BK108 := bb BK108 hb; replace HB := Aside0.mk (below_step (uB1 HB GE108.out) hb); (try clear hb); (try clear hb2); (try clear hk); (try clear hi); (try clear ho0); obtain ⟨Ao20, co20, eo20⟩ := Kd.R_slice HO111.out; subst eo20; obtain ⟨Ao21, co21, eo21⟩ := Kd.R_slice HO114.out; subst eo21) | (go_at_call 19; (with_reducible refine (laws_wkInts.calls k _ _ t109 _ _ t112 false _ ?side1 ?side2 ?side3 ?side4 A12.out).mono ?_); (case side1 => exact uD (Kd.R_reads' HO111.out).2.2); (case side2 => exact (Kd.R_reads' HO111.out).2.1); (case side3 => exact uD (Kd.R_reads' HO114.out).2.2); (case side4 => exact (Kd.R_reads' HO114.out).2.1); rintro e w' ⟨rfl, ⟨nd, rfl⟩⟩; (try first | exact ⟨rfl, _, World.drewN_drewN _ _ _⟩ | exact ⟨rfl, _, Eq.trans (World.drewN_drewN _ _ _) (congrArg (World.drewN _) (Nat.add_assoc _ _ _))⟩))); try go_wp2_with (first | (go_at_call 20; (with_reducible refine (spec_PlanAll.calls k t101 t102 _ _ t103 t106 t107 t112 _ ?side1 ?side2 A11.out).mono ?_); (case side1 => exact uD (Kd.R_reads' HO105.out).2.2); (case side2 => exact (Kd.R_reads' HO105.out).2.1); rintro e w19 ⟨v113, rfl, ho0, hb⟩; replace HO105 := Aside0.mk (Kd.R_below (ur HO105) hb); have HO114 := Aside0.mk (Kd.R_lower (Kd.R_new' ho0 (Kd.R_lt (ur HO111))) (below_size (uB1 HB GE108.out))); replace HO111 := Aside0.mk (Kd.R_elder' (ur HO111) (Kd.R_base ho0) hb); replace BK108 := bb BK108 hb; replace HB := Aside0.mk (below_step (uB1 HB GE108.out) hb); (try clear hb); (try clear hb2); (try clear hk); (try clear hi); (try clear ho0); obtain ⟨Ao20, co20, eo20⟩ := Kd.R_slice HO111.out; subst eo20; obtain ⟨Ao21, co21, eo21⟩ := Kd.R_slice HO114.out; subst eo21) | (go_at_call 19; (with_reducible refine (laws_wkInts.calls k _ _ t109 _ _ t112 false _ ?side1 ?side2 ?side3 ?side4 A12.out).mono ?_); (case side1 => exact uD (Kd.R_reads' HO111.out).2.2); (case side2 => exact (Kd.R_reads' HO111.out).2.1); (case side3 => exact uD (Kd.R_reads' HO114.out).2.2); (case side4 => exact (Kd.R_reads' HO114.out).2.1); rintro e w' ⟨rfl, ⟨nd, rfl⟩⟩; (try first | exact ⟨rfl, _, World.drewN_drewN _ _ _⟩ | exact ⟨rfl, _, Eq.trans (World.drewN_drewN _ _ _) (congrArg (World.drewN _) (Nat.add_assoc _ _ _))⟩))))
    go_meet
    case rel => exact ⟨_, (true), ue, H', ⟨by first | omega | exact Nat.le_refl _⟩, ⟨by (with_reducible repeat (first | apply Kd.R_alloc | apply Kd.R_drewN | apply Kd.R_drew)); exact Kd.R_mono HO111.out (fun _ hk => trivial)⟩, ⟨ur HO105⟩, ⟨ub BK108⟩, ⟨uB1 HB GE108.out⟩⟩
  case rest =>
   clear HC5; try clear c1
   try clear c2
   try clear c2b0
   try clear c2b1
   try clear p2
   try clear c3
   try clear c13
   try clear hcz14_0 hcz14_1 hcz14_2
   try clear hcz18_0 hcz18_1 hcz18_2
   try clear hcz8_0 hcz8_1 hcz8_2
   try clear hfz14_0 hfz14_1 hfz14_2
   try clear hfz18_0 hfz18_1 hfz18_2
   try clear hfz8_0 hfz8_1 hfz8_2
   obtain ⟨kq, x35_4, rfl, HA, HJ4, HO_6, HO_109002, BK108, HB⟩ := hcut
   cases kq with
   | zero => exact absurd HA.out (by simp [laws_FnPlanConn.j0])
   | succ kj4 =>
    have H := HA.out; clear HA; simp only [laws_FnPlanConn.j0] at H; by_cases c22 : x35_4 = true
    ·
     subst c22; rw [if_pos rfl] at H; replace H := Option.bind_eq_some_iff.mp H; obtain ⟨t116, A230, H⟩ := H; replace H : ((laws_wkInts.f kj4 t109 t116).bind fun t119 => (some t119)) = some true := H; have A23 := Aside0.mk A230; clear A230; replace H := Option.bind_eq_some_iff.mp H; obtain ⟨t119, A240, H⟩ := H; replace H : (some t119) = some true := H; have A24 := Aside0.mk A240; clear A240; have HE_ := Aside0.mk (Option.some.inj H); clear H; obtain ⟨hcz25_0, hcz25_1, hcz25_2, hfz25_0, hfz25_1, hfz25_2⟩ := bc3 BK108; go_wp2_with (first | (go_at_call 20; (with_reducible refine (spec_PlanAll.calls kj4 t101 t102 _ _ t103 t106 t107 t116 _ ?side1 ?side2 A23.out).mono ?_); (case side1 => exact uD (Kd.R_reads' HO_109002.out).2.2); (case side2 => exact (Kd.R_reads' HO_109002.out).2.1); rintro e w26 ⟨v117, rfl, ho0, hb⟩; replace HO_109002 := Aside0.mk (Kd.R_below (ur HO_109002) hb); have HO118 := Aside0.mk (Kd.R_lower (Kd.R_new' ho0 (Kd.R_lt (ur HO_6))) (below_size (uB1 HB GE108.out))); replace HO_6 := Aside0.mk (Kd.R_elder' (ur HO_6) (Kd.R_base ho0) hb); replace BK108 := bb BK108 hb; replace HB := Aside0.mk (below_step (uB1 HB GE108.out) hb); (try clear hb); (try clear hb2); (try clear hk); (try clear hi); (try clear ho0); obtain ⟨Ao27, co27, eo27⟩ := Kd.R_slice HO_6.out; subst eo27; obtain ⟨Ao28, co28, eo28⟩ := Kd.R_slice HO118.out; subst eo28) | (go_at_call 19; (with_reducible refine (laws_wkInts.calls kj4 _ _ t109 _ _ t116 t119 _ ?side1 ?side2 ?side3 ?side4 A24.out).mono ?_); (case side1 => exact uD (Kd.R_reads' HO_6.out).2.2); (case side2 => exact (Kd.R_reads' HO_6.out).2.1); (case side3 => exact uD (Kd.R_reads' HO118.out).2.2); (case side4 => exact (Kd.R_reads' HO118.out).2.1); rintro e w' ⟨rfl, ⟨nd, rfl⟩⟩; (try first | exact ⟨rfl, _, World.drewN_drewN _ _ _⟩ | exact ⟨rfl, _, Eq.trans (World.drewN_drewN _ _ _) (congrArg (World.drewN _) (Nat.add_assoc _ _ _))⟩)))
     repeat (go_quiet (first | (go_at_call 20; (with_reducible refine (spec_PlanAll.calls kj4 t101 t102 _ _ t103 t106 t107 t116 _ ?side1 ?side2 A23.out).mono ?_); (case side1 => exact uD (Kd.R_reads' HO_109002.out).2.2); (case side2 => exact (Kd.R_reads' HO_109002.out).2.1); rintro e w26 ⟨v117, rfl, ho0, hb⟩; replace HO_109002 := Aside0.mk (Kd.R_below (ur HO_109002) hb); have HO118 := Aside0.mk (Kd.R_lower (Kd.R_new' ho0 (Kd.R_lt (ur HO_6))) (below_size (uB1 HB GE108.out))); replace HO_6 := Aside0.mk (Kd.R_elder' (ur HO_6) (Kd.R_base ho0) hb); replace BK108 := bb BK108 hb; replace HB := Aside0.mk (below_step (uB1 HB GE108.out) hb); (try clear hb); (try clear hb2); (try clear hk); (try clear hi); (try clear ho0); obtain ⟨Ao27, co27, eo27⟩ := Kd.R_slice HO_6.out; subst eo27; obtain ⟨Ao28, co28, eo28⟩ := Kd.R_slice HO118.out; subst eo28) | (go_at_call 19; (with_reducible refine (laws_wkInts.calls kj4 _ _ t109 _ _ t116 t119 _ ?side1 ?side2 ?side3 ?side4 A24.out).mono ?_); (case side1 => exact uD (Kd.R_reads' HO_6.out).2.2); (case side2 => exact (Kd.R_reads' HO_6.out).2.1); (case side3 => exact uD (Kd.R_reads' HO118.out).2.2); (case side4 => exact (Kd.R_reads' HO118.out).2.1); rintro e w' ⟨rfl, ⟨nd, rfl⟩⟩; (try first | exact ⟨rfl, _, World.drewN_drewN _ _ _⟩ | exact ⟨rfl, _, Eq.trans (World.drewN_drewN _ _ _) (congrArg (World.drewN _) (Nat.add_assoc _ _ _))⟩))); try go_wp2_with (first | (go_at_call 20; (with_reducible refine (spec_PlanAll.calls kj4 t101 t102 _ _ t103 t106 t107 t116 _ ?side1 ?side2 A23.out).mono ?_); (case side1 => exact uD (Kd.R_reads' HO_109002.out).2.2); (case side2 => exact (Kd.R_reads' HO_109002.out).2.1); rintro e w26 ⟨v117, rfl, ho0, hb⟩; replace HO_109002 := Aside0.mk (Kd.R_below (ur HO_109002) hb); have HO118 := Aside0.mk (Kd.R_lower (Kd.R_new' ho0 (Kd.R_lt (ur HO_6))) (below_size (uB1 HB GE108.out))); replace HO_6 := Aside0.mk (Kd.R_elder' (ur HO_6) (Kd.R_base ho0) hb); replace BK108 := bb BK108 hb; replace HB := Aside0.mk (below_step (uB1 HB GE108.out) hb); (try clear hb); (try clear hb2); (try clear hk); (try clear hi); (try clear ho0); obtain ⟨Ao27, co27, eo27⟩ := Kd.R_slice HO_6.out; subst eo27; obtain ⟨Ao28, co28, eo28⟩ := Kd.R_slice HO118.out; subst eo28) | (go_at_call 19; (with_reducible refine (laws_wkInts.calls kj4 _ _ t109 _ _ t116 t119 _ ?side1 ?side2 ?side3 ?side4 A24.out).mono ?_); (case side1 => exact uD (Kd.R_reads' HO_6.out).2.2); (case side2 => exact (Kd.R_reads' HO_6.out).2.1); (case side3 => exact uD (Kd.R_reads' HO118.out).2.2); (case side4 => exact (Kd.R_reads' HO118.out).2.1); rintro e w' ⟨rfl, ⟨nd, rfl⟩⟩; (try first | exact ⟨rfl, _, World.drewN_drewN _ _ _⟩ | exact ⟨rfl, _, Eq.trans (World.drewN_drewN _ _ _) (congrArg (World.drewN _) (Nat.add_assoc _ _ _))⟩))))
     go_ret; exact ⟨by first | rfl | (simp [errW_none, errW_some] <;> rfl) | (simp [*, errW_none, errW_some] <;> rfl) | exact congrArg (fun b_ => Ending.returned (Value.bool b_)) HE_.out, uB1 HB GE108.out⟩
    ·
     replace c22 := Bool.eq_false_iff.mpr c22; subst c22; rw [if_neg (show ¬ (false = true) by decide)] at H; have H' := Aside0.mk H; clear H; go_wp2
     repeat (go_quiet (fail); try go_wp2)
     go_loopg [7] kj4 (fun kq v7 w' => ∃ (x7_2 : Int), v7 = .int .i64 x7_2 ∧ Aside0 (laws_FnPlanConn.l0 kq t106 t107 t109 x7_2 t101 t102 t103 = some true) ∧ Aside0 (kq ≤ kj4) ∧ Aside0 (Kd.R (Kd.int .i64) 3 w' w.heap.size (fun _ => True) v110 t109) ∧ Aside0 (Kd.R k32 32 w' w.heap.size (fun _ => True) (.slice Ao9 t103.length co9) t103) ∧ Aside0 (w'.heap[gb108]? = some (.cells #[.int .i64 t101, .int .i64 t102, (.slice Ao9 t103.length co9)] 25 (0, 0))) ∧ Aside0 (Below w.heap.size w w'))
     case atStart => exact ⟨(0), ue, H', ⟨Nat.le_refl _⟩, ⟨ur HO_6⟩, ⟨ur HO_109002⟩, ⟨ub BK108⟩, ⟨uB1 HB GE108.out⟩⟩
     case round =>
      clear H'; try clear c1
      try clear c2
      try clear c2b0
      try clear c2b1
      try clear p2
      try clear c3
      try clear c13
      try clear c22
      try clear hcz14_0 hcz14_1 hcz14_2
      try clear hcz18_0 hcz18_1 hcz18_2
      try clear hcz25_0 hcz25_1 hcz25_2
      try clear hcz8_0 hcz8_1 hcz8_2
      try clear hfz14_0 hfz14_1 hfz14_2
      try clear hfz18_0 hfz18_1 hfz18_2
      try clear hfz25_0 hfz25_1 hfz25_2
      try clear hfz8_0 hfz8_1 hfz8_2
      try clear p2
      obtain ⟨x7_2, rfl, HA, HK2, HO_6, HO_109002, BK108, HB⟩ := hrel
      cases gk with
      | zero => exact absurd HA.out (by simp [laws_FnPlanConn.l0])
      | succ k2 =>
       have H := HA.out; clear HA; simp only [laws_FnPlanConn.l0] at H; by_cases c29 : x7_2 < (t103.length : Int)
       ·
        rw [if_pos c29] at H; have c29b0 : decide (x7_2 < (t103.length : Int)) = true := decide_eq_true c29; clear c29; by_cases c30 : 0 ≤ x7_2
        ·
         rw [if_pos c30] at H; have c30b0 : decide (0 ≤ x7_2) = true := decide_eq_true c30; clear c30; have HC31 := Aside0.mk H; clear H; obtain ⟨hcz32_0, hcz32_1, hcz32_2, hfz32_0, hfz32_1, hfz32_2⟩ := bc3 BK108; have p120 : 0 ≤ (x7_2 : Int) := ua; have q120 : x7_2 < (t103.length : Int) := ua; obtain ⟨ad120, e120, hx120_0, hx120_1, hx120_2, hx120_3, hx120_4⟩ := at_T32 (Kd.R_reads' HO_109002.out).2.2 x7_2 p120 q120
         cases e120
         replace p120 := eq_true p120; replace q120 := eq_true q120; go_upto_region 11 with (first | ((with_reducible refine gate_dst (N := 8) rfl ?_); refine be (cs := #[.int .i64 0, .int .i64 0, .int .i64 0, .int .i64 0, .int .i64 0]) (t := 32) ?_; intro gb121 hg w33 hbox hb; replace HO_6 := Aside0.mk (Kd.R_below (ur HO_6) hb); replace HO_109002 := Aside0.mk (Kd.R_below (Kd.R_elderB (ur HO_109002) gb121 (Nat.le_of_eq hg.symm)) hb); have BK121 := Aside0.mk (hbox); have GW121 := gz w hg (uB1 HB GE108.out); have GE121 := gz w hg (uB1 HB GE108.out); replace HB := Aside0.mk (below_step (uB1 HB GE108.out) hb); have NB108_121 := gl hg BK108; have NB121_108 := gr hg BK108; replace BK108 := bb BK108 hb; clear hb hbox hg; have hnb34 := NB121_108.out; have hnc34 := NB108_121.out; obtain ⟨hcz35_0, hcz35_1, hcz35_2, hcz35_3, hcz35_4, hfz35_0, hfz35_1, hfz35_2, hfz35_3, hfz35_4⟩ := bc5 BK121))
         repeat (go_quiet (first | ((with_reducible refine gate_dst (N := 8) rfl ?_); refine be (cs := #[.int .i64 0, .int .i64 0, .int .i64 0, .int .i64 0, .int .i64 0]) (t := 32) ?_; intro gb121 hg w33 hbox hb; replace HO_6 := Aside0.mk (Kd.R_below (ur HO_6) hb); replace HO_109002 := Aside0.mk (Kd.R_below (Kd.R_elderB (ur HO_109002) gb121 (Nat.le_of_eq hg.symm)) hb); have BK121 := Aside0.mk (hbox); have GW121 := gz w hg (uB1 HB GE108.out); have GE121 := gz w hg (uB1 HB GE108.out); replace HB := Aside0.mk (below_step (uB1 HB GE108.out) hb); have NB108_121 := gl hg BK108; have NB121_108 := gr hg BK108; replace BK108 := bb BK108 hb; clear hb hbox hg; have hnb34 := NB121_108.out; have hnc34 := NB108_121.out; obtain ⟨hcz35_0, hcz35_1, hcz35_2, hcz35_3, hcz35_4, hfz35_0, hfz35_1, hfz35_2, hfz35_3, hfz35_4⟩ := bc5 BK121)); go_upto_region 11 with (first | ((with_reducible refine gate_dst (N := 8) rfl ?_); refine be (cs := #[.int .i64 0, .int .i64 0, .int .i64 0, .int .i64 0, .int .i64 0]) (t := 32) ?_; intro gb121 hg w33 hbox hb; replace HO_6 := Aside0.mk (Kd.R_below (ur HO_6) hb); replace HO_109002 := Aside0.mk (Kd.R_below (Kd.R_elderB (ur HO_109002) gb121 (Nat.le_of_eq hg.symm)) hb); have BK121 := Aside0.mk (hbox); have GW121 := gz w hg (uB1 HB GE108.out); have GE121 := gz w hg (uB1 HB GE108.out); replace HB := Aside0.mk (below_step (uB1 HB GE108.out) hb); have NB108_121 := gl hg BK108; have NB121_108 := gr hg BK108; replace BK108 := bb BK108 hb; clear hb hbox hg; have hnb34 := NB121_108.out; have hnc34 := NB108_121.out; obtain ⟨hcz35_0, hcz35_1, hcz35_2, hcz35_3, hcz35_4, hfz35_0, hfz35_1, hfz35_2, hfz35_3, hfz35_4⟩ := bc5 BK121)))
         (try simp only [Act.put, List.setIfInBounds_toArray, List.set_cons_zero, List.set_cons_succ]); go_cut [9] (fun v9 wc => ∃ (kq : Nat) (x9_30 : Bool), v9 = .bool x9_30 ∧ Aside0 (laws_FnPlanConn.j2 kq t106 t107 t109 x7_2 x9_30 t101 t102 t103 ((rd_T32 t103 x7_2).f0) ((rd_T32 t103 x7_2).f1) ((rd_T32 t103 x7_2).f2) ((rd_T32 t103 x7_2).f3) ((rd_T32 t103 x7_2).f4) = some true) ∧ Aside0 (kq ≤ k2) ∧ Aside0 (Kd.R (Kd.int .i64) 3 wc w.heap.size (fun _ => True) v110 t109) ∧ Aside0 (Kd.R k32 32 wc w.heap.size (fun k_ => k_ ≠ gb121) (.slice (some ad120) t103.length co9) t103) ∧ Aside0 (wc.heap[gb108]? = some (.cells #[.int .i64 t101, .int .i64 t102, (.slice (some ad120) t103.length co9)] 25 (0, 0))) ∧ Aside0 (wc.heap[gb121]? = some (.cells #[.int .i64 ((rd_T32 t103 x7_2).f0), .int .i64 ((rd_T32 t103 x7_2).f1), .int .i64 ((rd_T32 t103 x7_2).f2), .int .i64 ((rd_T32 t103 x7_2).f3), .int .i64 ((rd_T32 t103 x7_2).f4)] 32 (0, 0))) ∧ Aside0 (Below w.heap.size w wc))
         case first =>
          have H := HC31.out; clear HC31; by_cases c36 : ((rd_T32 t103 x7_2).f0) = t106
          ·
           rw [if_pos c36] at H; have c36b0 : (((rd_T32 t103 x7_2).f0) == t106) = true := beq_iff_eq.mpr c36; have c36b1 : (((rd_T32 t103 x7_2).f0) != t106) = false := bne_eq_false_iff_eq.mpr c36; clear c36; (first | rw [c36b0] | (simp only [i64_w, i32_w]; rw [c36b0]) | skip); by_cases c37 : t107 ≤ ((rd_T32 t103 x7_2).f2)
           ·
            rw [if_pos c37] at H; have c37b0 : decide (t107 ≤ ((rd_T32 t103 x7_2).f2)) = true := decide_eq_true c37; clear c37; have H' := Aside0.mk H; clear H; have hnb38 := NB121_108.out; have hnc38 := NB108_121.out; obtain ⟨hcz39_0, hcz39_1, hcz39_2, hcz39_3, hcz39_4, hfz39_0, hfz39_1, hfz39_2, hfz39_3, hfz39_4⟩ := bc5 BK121; go_wp2
            repeat (go_quiet (fail); try go_wp2)
            go_meet
            case rel => exact ⟨_, (true), ue, H', ⟨by have := HJ4.out; have := HK2.out; first | omega | exact Nat.le_refl _⟩, ⟨by (with_reducible repeat (first | apply Kd.R_alloc | apply Kd.R_drewN | apply Kd.R_drew)); exact Kd.R_mono (rf5 HO_6 BK121) (fun _ hk => trivial)⟩, ⟨by (with_reducible repeat (first | apply Kd.R_alloc | apply Kd.R_drewN | apply Kd.R_drew)); exact Kd.R_mono (Kd.R_far (p := ⟨gb121, 4, none⟩) (Kd.R_far (p := ⟨gb121, 3, none⟩) (Kd.R_far (p := ⟨gb121, 2, none⟩) (Kd.R_far (p := ⟨gb121, 1, none⟩) (Kd.R_far (p := ⟨gb121, 0, none⟩) (Kd.R_mono HO_109002.out (fun k_ hk => (⟨hk, hk.2⟩ : _ ∧ k_ ≠ gb121))) (fun _ hk => hk.2) (.int .i64 ((rd_T32 t103 x7_2).f0))) (fun _ hk => hk.2) (.int .i64 ((rd_T32 t103 x7_2).f1))) (fun _ hk => hk.2) (.int .i64 ((rd_T32 t103 x7_2).f2))) (fun _ hk => hk.2) (.int .i64 ((rd_T32 t103 x7_2).f3))) (fun _ hk => hk.2) (.int .i64 ((rd_T32 t103 x7_2).f4))) (fun _ hk => hk.1.2)⟩, ⟨by (with_reducible repeat first | apply zbn | apply zbd | apply zba); refine fa5 ?_ NB108_121; exact ub BK108⟩, ⟨by (with_reducible repeat first | apply zbn | apply zbd | apply zba); refine pu5 (.int .i64 0) (.int .i64 0) (.int .i64 0) (.int .i64 0) (.int .i64 0) ?_; exact ub BK121⟩, ⟨uB2 HB GE108.out GE121.out⟩⟩
           ·
            rw [if_neg c37] at H; have c37b0 : decide (t107 ≤ ((rd_T32 t103 x7_2).f2)) = false := decide_eq_false c37; clear c37; have H' := Aside0.mk H; clear H; have hnb40 := NB121_108.out; have hnc40 := NB108_121.out; obtain ⟨hcz41_0, hcz41_1, hcz41_2, hcz41_3, hcz41_4, hfz41_0, hfz41_1, hfz41_2, hfz41_3, hfz41_4⟩ := bc5 BK121; go_wp2
            repeat (go_quiet (fail); try go_wp2)
            go_meet
            case rel => exact ⟨_, (false), ue, H', ⟨by have := HJ4.out; have := HK2.out; first | omega | exact Nat.le_refl _⟩, ⟨by (with_reducible repeat (first | apply Kd.R_alloc | apply Kd.R_drewN | apply Kd.R_drew)); exact Kd.R_mono (rf5 HO_6 BK121) (fun _ hk => trivial)⟩, ⟨by (with_reducible repeat (first | apply Kd.R_alloc | apply Kd.R_drewN | apply Kd.R_drew)); exact Kd.R_mono (Kd.R_far (p := ⟨gb121, 4, none⟩) (Kd.R_far (p := ⟨gb121, 3, none⟩) (Kd.R_far (p := ⟨gb121, 2, none⟩) (Kd.R_far (p := ⟨gb121, 1, none⟩) (Kd.R_far (p := ⟨gb121, 0, none⟩) (Kd.R_mono HO_109002.out (fun k_ hk => (⟨hk, hk.2⟩ : _ ∧ k_ ≠ gb121))) (fun _ hk => hk.2) (.int .i64 ((rd_T32 t103 x7_2).f0))) (fun _ hk => hk.2) (.int .i64 ((rd_T32 t103 x7_2).f1))) (fun _ hk => hk.2) (.int .i64 ((rd_T32 t103 x7_2).f2))) (fun _ hk => hk.2) (.int .i64 ((rd_T32 t103 x7_2).f3))) (fun _ hk => hk.2) (.int .i64 ((rd_T32 t103 x7_2).f4))) (fun _ hk => hk.1.2)⟩, ⟨by (with_reducible repeat first | apply zbn | apply zbd | apply zba); refine fa5 ?_ NB108_121; exact ub BK108⟩, ⟨by (with_reducible repeat first | apply zbn | apply zbd | apply zba); refine pu5 (.int .i64 0) (.int .i64 0) (.int .i64 0) (.int .i64 0) (.int .i64 0) ?_; exact ub BK121⟩, ⟨uB2 HB GE108.out GE121.out⟩⟩
          ·
           rw [if_neg c36] at H; have c36b0 : (((rd_T32 t103 x7_2).f0) == t106) = false := beq_eq_false_iff_ne.mpr c36; have c36b1 : (((rd_T32 t103 x7_2).f0) != t106) = true := bne_iff_ne.mpr c36; (first | rw [c36b0] | (simp only [i64_w, i32_w]; rw [c36b0]) | skip); by_cases c42 : 0 ≤ ((rd_T32 t103 x7_2).f0)
           ·
            rw [if_pos c42] at H; have c42b0 : decide (0 ≤ ((rd_T32 t103 x7_2).f0)) = true := decide_eq_true c42; clear c42; by_cases c43 : ((rd_T32 t103 x7_2).f0) < (t109.length : Int)
            ·
             rw [if_pos c43] at H; have c43b0 : decide (((rd_T32 t103 x7_2).f0) < (t109.length : Int)) = true := decide_eq_true c43; clear c43; by_cases c44 : (rd t109 ((rd_T32 t103 x7_2).f0)) < 99999
             ·
              rw [if_pos c44] at H; have c44b0 : decide ((rd t109 ((rd_T32 t103 x7_2).f0)) < 99999) = true := decide_eq_true c44; clear c44; have H' := Aside0.mk H; clear H; have hnb45 := NB121_108.out; have hnc45 := NB108_121.out; obtain ⟨hcz46_0, hcz46_1, hcz46_2, hcz46_3, hcz46_4, hfz46_0, hfz46_1, hfz46_2, hfz46_3, hfz46_4⟩ := bc5 BK121; obtain ⟨Ao47, co47, eo47⟩ := Kd.R_slice HO_6.out; subst eo47; have p122 : 0 ≤ (((rd_T32 t103 x7_2).f0) : Int) := ua; have q122 : ((rd_T32 t103 x7_2).f0) < (t109.length : Int) := ua; obtain ⟨ad122, e122, hx122_0⟩ := Kd.at_int (Kd.R_reads' HO_6.out).2.2 ((rd_T32 t103 x7_2).f0) p122 q122
              cases e122
              have hn122_0 : ad122.block ≠ gb121 := Kd.own_blk (Kd.R_ne HO_6.out BK121.out (by decide)); have hn122_1 : ad122.block ≠ gb121 := Kd.own_blk (Kd.R_ne HO_6.out BK121.out (by decide)); have hn122_2 : ad122.block ≠ gb121 := Kd.own_blk (Kd.R_ne HO_6.out BK121.out (by decide)); have hn122_3 : ad122.block ≠ gb121 := Kd.own_blk (Kd.R_ne HO_6.out BK121.out (by decide)); have hn122_4 : ad122.block ≠ gb121 := Kd.own_blk (Kd.R_ne HO_6.out BK121.out (by decide)); replace hx122_0 := (cell_far (p := ⟨gb121, 0, none⟩) (by first | (rw [add_block]; exact hn122_0) | (show (Addr.add _ _).block ≠ _; rw [add_block]; exact hn122_0) | exact hn122_0) (.int .i64 ((rd_T32 t103 x7_2).f0))).trans hx122_0; replace hx122_0 := (cell_far (p := ⟨gb121, 1, none⟩) (by first | (rw [add_block]; exact hn122_1) | (show (Addr.add _ _).block ≠ _; rw [add_block]; exact hn122_1) | exact hn122_1) (.int .i64 ((rd_T32 t103 x7_2).f1))).trans hx122_0; replace hx122_0 := (cell_far (p := ⟨gb121, 2, none⟩) (by first | (rw [add_block]; exact hn122_2) | (show (Addr.add _ _).block ≠ _; rw [add_block]; exact hn122_2) | exact hn122_2) (.int .i64 ((rd_T32 t103 x7_2).f2))).trans hx122_0; replace hx122_0 := (cell_far (p := ⟨gb121, 3, none⟩) (by first | (rw [add_block]; exact hn122_3) | (show (Addr.add _ _).block ≠ _; rw [add_block]; exact hn122_3) | exact hn122_3) (.int .i64 ((rd_T32 t103 x7_2).f3))).trans hx122_0; replace hx122_0 := (cell_far (p := ⟨gb121, 4, none⟩) (by first | (rw [add_block]; exact hn122_4) | (show (Addr.add _ _).block ≠ _; rw [add_block]; exact hn122_4) | exact hn122_4) (.int .i64 ((rd_T32 t103 x7_2).f4))).trans hx122_0; (try have hy122_0 := fun (n_ : Nat) => (show (((((((w33.drewN n_).setCell ⟨gb121, 0, none⟩ (.int .i64 ((rd_T32 t103 x7_2).f0))).setCell ⟨gb121, 1, none⟩ (.int .i64 ((rd_T32 t103 x7_2).f1))).setCell ⟨gb121, 2, none⟩ (.int .i64 ((rd_T32 t103 x7_2).f2))).setCell ⟨gb121, 3, none⟩ (.int .i64 ((rd_T32 t103 x7_2).f3))).setCell ⟨gb121, 4, none⟩ (.int .i64 ((rd_T32 t103 x7_2).f4)))).cell? _ = some _ from hx122_0)); clear hn122_0; clear hn122_1; clear hn122_2; clear hn122_3; clear hn122_4; replace p122 := eq_true p122; replace q122 := eq_true q122; have p123 : 0 ≤ (((rd_T32 t103 x7_2).f0) : Int) := ua; have q123 : ((rd_T32 t103 x7_2).f0) < (t109.length : Int) := ua; obtain ⟨ad123, e123, hx123_0⟩ := Kd.at_int (Kd.R_reads' HO_6.out).2.2 ((rd_T32 t103 x7_2).f0) p123 q123; obtain rfl : ad122 = ad123 := (by injection e123)
              have hn123_0 : ad122.block ≠ gb121 := Kd.own_blk (Kd.R_ne HO_6.out BK121.out (by decide)); have hn123_1 : ad122.block ≠ gb121 := Kd.own_blk (Kd.R_ne HO_6.out BK121.out (by decide)); have hn123_2 : ad122.block ≠ gb121 := Kd.own_blk (Kd.R_ne HO_6.out BK121.out (by decide)); have hn123_3 : ad122.block ≠ gb121 := Kd.own_blk (Kd.R_ne HO_6.out BK121.out (by decide)); have hn123_4 : ad122.block ≠ gb121 := Kd.own_blk (Kd.R_ne HO_6.out BK121.out (by decide)); replace hx123_0 := (cell_far (p := ⟨gb121, 0, none⟩) (by first | (rw [add_block]; exact hn123_0) | (show (Addr.add _ _).block ≠ _; rw [add_block]; exact hn123_0) | exact hn123_0) (.int .i64 ((rd_T32 t103 x7_2).f0))).trans hx123_0; replace hx123_0 := (cell_far (p := ⟨gb121, 1, none⟩) (by first | (rw [add_block]; exact hn123_1) | (show (Addr.add _ _).block ≠ _; rw [add_block]; exact hn123_1) | exact hn123_1) (.int .i64 ((rd_T32 t103 x7_2).f1))).trans hx123_0; replace hx123_0 := (cell_far (p := ⟨gb121, 2, none⟩) (by first | (rw [add_block]; exact hn123_2) | (show (Addr.add _ _).block ≠ _; rw [add_block]; exact hn123_2) | exact hn123_2) (.int .i64 ((rd_T32 t103 x7_2).f2))).trans hx123_0; replace hx123_0 := (cell_far (p := ⟨gb121, 3, none⟩) (by first | (rw [add_block]; exact hn123_3) | (show (Addr.add _ _).block ≠ _; rw [add_block]; exact hn123_3) | exact hn123_3) (.int .i64 ((rd_T32 t103 x7_2).f3))).trans hx123_0; replace hx123_0 := (cell_far (p := ⟨gb121, 4, none⟩) (by first | (rw [add_block]; exact hn123_4) | (show (Addr.add _ _).block ≠ _; rw [add_block]; exact hn123_4) | exact hn123_4) (.int .i64 ((rd_T32 t103 x7_2).f4))).trans hx123_0; (try have hy123_0 := fun (n_ : Nat) => (show (((((((w33.drewN n_).setCell ⟨gb121, 0, none⟩ (.int .i64 ((rd_T32 t103 x7_2).f0))).setCell ⟨gb121, 1, none⟩ (.int .i64 ((rd_T32 t103 x7_2).f1))).setCell ⟨gb121, 2, none⟩ (.int .i64 ((rd_T32 t103 x7_2).f2))).setCell ⟨gb121, 3, none⟩ (.int .i64 ((rd_T32 t103 x7_2).f3))).setCell ⟨gb121, 4, none⟩ (.int .i64 ((rd_T32 t103 x7_2).f4)))).cell? _ = some _ from hx123_0)); clear hn123_0; clear hn123_1; clear hn123_2; clear hn123_3; clear hn123_4; replace p123 := eq_true p123; replace q123 := eq_true q123; obtain ⟨hcz48_0, hcz48_1, hcz48_2, hfz48_0, hfz48_1, hfz48_2⟩ := bc3 BK108; go_wp2
              repeat (go_quiet (fail); try go_wp2)
              go_meet
              case rel => exact ⟨_, (decide ((wrap64 ((rd t109 ((rd_T32 t103 x7_2).f0)) + t102)) ≤ ((rd_T32 t103 x7_2).f2))), ue, H', ⟨by have := HJ4.out; have := HK2.out; first | omega | exact Nat.le_refl _⟩, ⟨by (with_reducible repeat (first | apply Kd.R_alloc | apply Kd.R_drewN | apply Kd.R_drew)); exact Kd.R_mono (rf5 HO_6 BK121) (fun _ hk => trivial)⟩, ⟨by (with_reducible repeat (first | apply Kd.R_alloc | apply Kd.R_drewN | apply Kd.R_drew)); exact Kd.R_mono (Kd.R_far (p := ⟨gb121, 4, none⟩) (Kd.R_far (p := ⟨gb121, 3, none⟩) (Kd.R_far (p := ⟨gb121, 2, none⟩) (Kd.R_far (p := ⟨gb121, 1, none⟩) (Kd.R_far (p := ⟨gb121, 0, none⟩) (Kd.R_mono HO_109002.out (fun k_ hk => (⟨hk, hk.2⟩ : _ ∧ k_ ≠ gb121))) (fun _ hk => hk.2) (.int .i64 ((rd_T32 t103 x7_2).f0))) (fun _ hk => hk.2) (.int .i64 ((rd_T32 t103 x7_2).f1))) (fun _ hk => hk.2) (.int .i64 ((rd_T32 t103 x7_2).f2))) (fun _ hk => hk.2) (.int .i64 ((rd_T32 t103 x7_2).f3))) (fun _ hk => hk.2) (.int .i64 ((rd_T32 t103 x7_2).f4))) (fun _ hk => hk.1.2)⟩, ⟨by (with_reducible repeat first | apply zbn | apply zbd | apply zba); refine fa5 ?_ NB108_121; exact ub BK108⟩, ⟨by (with_reducible repeat first | apply zbn | apply zbd | apply zba); refine pu5 (.int .i64 0) (.int .i64 0) (.int .i64 0) (.int .i64 0) (.int .i64 0) ?_; exact ub BK121⟩, ⟨uB2 HB GE108.out GE121.out⟩⟩
             ·
              rw [if_neg c44] at H; have c44b0 : decide ((rd t109 ((rd_T32 t103 x7_2).f0)) < 99999) = false := decide_eq_false c44; clear c44; have H' := Aside0.mk H; clear H; have hnb49 := NB121_108.out; have hnc49 := NB108_121.out; obtain ⟨hcz50_0, hcz50_1, hcz50_2, hcz50_3, hcz50_4, hfz50_0, hfz50_1, hfz50_2, hfz50_3, hfz50_4⟩ := bc5 BK121; obtain ⟨Ao51, co51, eo51⟩ := Kd.R_slice HO_6.out; subst eo51; have p122 : 0 ≤ (((rd_T32 t103 x7_2).f0) : Int) := ua; have q122 : ((rd_T32 t103 x7_2).f0) < (t109.length : Int) := ua; obtain ⟨ad122, e122, hx122_0⟩ := Kd.at_int (Kd.R_reads' HO_6.out).2.2 ((rd_T32 t103 x7_2).f0) p122 q122
              cases e122
              have hn122_0 : ad122.block ≠ gb121 := Kd.own_blk (Kd.R_ne HO_6.out BK121.out (by decide)); have hn122_1 : ad122.block ≠ gb121 := Kd.own_blk (Kd.R_ne HO_6.out BK121.out (by decide)); have hn122_2 : ad122.block ≠ gb121 := Kd.own_blk (Kd.R_ne HO_6.out BK121.out (by decide)); have hn122_3 : ad122.block ≠ gb121 := Kd.own_blk (Kd.R_ne HO_6.out BK121.out (by decide)); have hn122_4 : ad122.block ≠ gb121 := Kd.own_blk (Kd.R_ne HO_6.out BK121.out (by decide)); replace hx122_0 := (cell_far (p := ⟨gb121, 0, none⟩) (by first | (rw [add_block]; exact hn122_0) | (show (Addr.add _ _).block ≠ _; rw [add_block]; exact hn122_0) | exact hn122_0) (.int .i64 ((rd_T32 t103 x7_2).f0))).trans hx122_0; replace hx122_0 := (cell_far (p := ⟨gb121, 1, none⟩) (by first | (rw [add_block]; exact hn122_1) | (show (Addr.add _ _).block ≠ _; rw [add_block]; exact hn122_1) | exact hn122_1) (.int .i64 ((rd_T32 t103 x7_2).f1))).trans hx122_0; replace hx122_0 := (cell_far (p := ⟨gb121, 2, none⟩) (by first | (rw [add_block]; exact hn122_2) | (show (Addr.add _ _).block ≠ _; rw [add_block]; exact hn122_2) | exact hn122_2) (.int .i64 ((rd_T32 t103 x7_2).f2))).trans hx122_0; replace hx122_0 := (cell_far (p := ⟨gb121, 3, none⟩) (by first | (rw [add_block]; exact hn122_3) | (show (Addr.add _ _).block ≠ _; rw [add_block]; exact hn122_3) | exact hn122_3) (.int .i64 ((rd_T32 t103 x7_2).f3))).trans hx122_0; replace hx122_0 := (cell_far (p := ⟨gb121, 4, none⟩) (by first | (rw [add_block]; exact hn122_4) | (show (Addr.add _ _).block ≠ _; rw [add_block]; exact hn122_4) | exact hn122_4) (.int .i64 ((rd_T32 t103 x7_2).f4))).trans hx122_0; (try have hy122_0 := fun (n_ : Nat) => (show (((((((w33.drewN n_).setCell ⟨gb121, 0, none⟩ (.int .i64 ((rd_T32 t103 x7_2).f0))).setCell ⟨gb121, 1, none⟩ (.int .i64 ((rd_T32 t103 x7_2).f1))).setCell ⟨gb121, 2, none⟩ (.int .i64 ((rd_T32 t103 x7_2).f2))).setCell ⟨gb121, 3, none⟩ (.int .i64 ((rd_T32 t103 x7_2).f3))).setCell ⟨gb121, 4, none⟩ (.int .i64 ((rd_T32 t103 x7_2).f4)))).cell? _ = some _ from hx122_0)); clear hn122_0; clear hn122_1; clear hn122_2; clear hn122_3; clear hn122_4; replace p122 := eq_true p122; replace q122 := eq_true q122; go_wp2
              repeat (go_quiet (fail); try go_wp2)
              go_meet
              case rel => exact ⟨_, (false), ue, H', ⟨by have := HJ4.out; have := HK2.out; first | omega | exact Nat.le_refl _⟩, ⟨by (with_reducible repeat (first | apply Kd.R_alloc | apply Kd.R_drewN | apply Kd.R_drew)); exact Kd.R_mono (rf5 HO_6 BK121) (fun _ hk => trivial)⟩, ⟨by (with_reducible repeat (first | apply Kd.R_alloc | apply Kd.R_drewN | apply Kd.R_drew)); exact Kd.R_mono (Kd.R_far (p := ⟨gb121, 4, none⟩) (Kd.R_far (p := ⟨gb121, 3, none⟩) (Kd.R_far (p := ⟨gb121, 2, none⟩) (Kd.R_far (p := ⟨gb121, 1, none⟩) (Kd.R_far (p := ⟨gb121, 0, none⟩) (Kd.R_mono HO_109002.out (fun k_ hk => (⟨hk, hk.2⟩ : _ ∧ k_ ≠ gb121))) (fun _ hk => hk.2) (.int .i64 ((rd_T32 t103 x7_2).f0))) (fun _ hk => hk.2) (.int .i64 ((rd_T32 t103 x7_2).f1))) (fun _ hk => hk.2) (.int .i64 ((rd_T32 t103 x7_2).f2))) (fun _ hk => hk.2) (.int .i64 ((rd_T32 t103 x7_2).f3))) (fun _ hk => hk.2) (.int .i64 ((rd_T32 t103 x7_2).f4))) (fun _ hk => hk.1.2)⟩, ⟨by (with_reducible repeat first | apply zbn | apply zbd | apply zba); refine fa5 ?_ NB108_121; exact ub BK108⟩, ⟨by (with_reducible repeat first | apply zbn | apply zbd | apply zba); refine pu5 (.int .i64 0) (.int .i64 0) (.int .i64 0) (.int .i64 0) (.int .i64 0) ?_; exact ub BK121⟩, ⟨uB2 HB GE108.out GE121.out⟩⟩
            ·
             rw [if_neg c43] at H; exact absurd H (by simp)
           ·
            rw [if_neg c42] at H; exact absurd H (by simp)
         case rest =>
          clear HC31; try clear c1
          try clear p1
          try clear q1
          try clear hx1
          try clear c2
          try clear c2b0
          try clear c2b1
          try clear p2
          try clear c3
          try clear c4
          try clear p6
          try clear p12
          try clear q12
          try clear hx12
          try clear c13
          try clear c22
          try clear c29
          try clear c29b0
          try clear c30
          try clear c30b0
          try clear c34
          try clear c36
          try clear c36b0
          try clear c36b1
          try clear c37
          try clear c37b0
          try clear c38
          try clear c40
          try clear c42
          try clear c42b0
          try clear c43
          try clear c43b0
          try clear c44
          try clear c44b0
          try clear c45
          try clear c49
          try clear hcz14_0 hcz14_1 hcz14_2
          try clear hcz18_0 hcz18_1 hcz18_2
          try clear hcz25_0 hcz25_1 hcz25_2
          try clear hcz32_0 hcz32_1 hcz32_2
          try clear hcz35_0 hcz35_1 hcz35_2 hcz35_3 hcz35_4
          try clear hcz39_0 hcz39_1 hcz39_2 hcz39_3 hcz39_4
          try clear hcz41_0 hcz41_1 hcz41_2 hcz41_3 hcz41_4
          try clear hcz46_0 hcz46_1 hcz46_2 hcz46_3 hcz46_4
          try clear hcz48_0 hcz48_1 hcz48_2
          try clear hcz50_0 hcz50_1 hcz50_2 hcz50_3 hcz50_4
          try clear hcz8_0 hcz8_1 hcz8_2
          try clear hfz14_0 hfz14_1 hfz14_2
          try clear hfz18_0 hfz18_1 hfz18_2
          try clear hfz25_0 hfz25_1 hfz25_2
          try clear hfz32_0 hfz32_1 hfz32_2
          try clear hfz35_0 hfz35_1 hfz35_2 hfz35_3 hfz35_4
          try clear hfz39_0 hfz39_1 hfz39_2 hfz39_3 hfz39_4
          try clear hfz41_0 hfz41_1 hfz41_2 hfz41_3 hfz41_4
          try clear hfz46_0 hfz46_1 hfz46_2 hfz46_3 hfz46_4
          try clear hfz48_0 hfz48_1 hfz48_2
          try clear hfz50_0 hfz50_1 hfz50_2 hfz50_3 hfz50_4
          try clear hfz8_0 hfz8_1 hfz8_2
          try clear hx120_0
          try clear hx120_1
          try clear hx120_2
          try clear hx120_3
          try clear hx120_4
          try clear hx122_0
          try clear hx123_0
          try clear p120
          try clear p122
          try clear p123
          try clear p2
          try clear q120
          try clear q122
          try clear q123
          obtain ⟨kq, x9_30, rfl, HA, HJ30, HO_6, HO_109002, BK108, BK121, HB⟩ := hcut
          cases kq with
          | zero => exact absurd HA.out (by simp [laws_FnPlanConn.j2])
          | succ kj30 =>
           have H := HA.out; clear HA; simp only [laws_FnPlanConn.j2] at H; have H' := Aside0.mk H; clear H; go_wp2
           repeat (go_quiet (fail); try go_wp2)
           go_loopg [10] kj30 (fun kq v10 w' => ∃ (x10_4 : Int), v10 = .int .i64 x10_4 ∧ Aside0 (laws_FnPlanConn.l1 kq t106 t107 t109 x7_2 x9_30 x10_4 t101 t102 t103 ((rd_T32 t103 x7_2).f0) ((rd_T32 t103 x7_2).f1) ((rd_T32 t103 x7_2).f2) ((rd_T32 t103 x7_2).f3) ((rd_T32 t103 x7_2).f4) = some true) ∧ Aside0 (kq ≤ kj30) ∧ Aside0 (Kd.R (Kd.int .i64) 3 w' w.heap.size (fun _ => True) v110 t109) ∧ Aside0 (Kd.R k32 32 w' w.heap.size (fun k_ => k_ ≠ gb121) (.slice (some ad120) t103.length co9) t103) ∧ Aside0 (w'.heap[gb108]? = some (.cells #[.int .i64 t101, .int .i64 t102, (.slice (some ad120) t103.length co9)] 25 (0, 0))) ∧ Aside0 (w'.heap[gb121]? = some (.cells #[.int .i64 ((rd_T32 t103 x7_2).f0), .int .i64 ((rd_T32 t103 x7_2).f1), .int .i64 ((rd_T32 t103 x7_2).f2), .int .i64 ((rd_T32 t103 x7_2).f3), .int .i64 ((rd_T32 t103 x7_2).f4)] 32 (0, 0))) ∧ Aside0 (Below w.heap.size w w'))
           case atStart => exact ⟨(x7_2), ue, H', ⟨Nat.le_refl _⟩, ⟨ur HO_6⟩, ⟨ur HO_109002⟩, ⟨ub BK108⟩, ⟨ub BK121⟩, ⟨uB2 HB GE108.out GE121.out⟩⟩
           case round =>
            clear H'; try clear c1
            try clear p1
            try clear q1
            try clear hx1
            try clear c2
            try clear c2b0
            try clear c2b1
            try clear p2
            try clear c3
            try clear c4
            try clear p6
            try clear p12
            try clear q12
            try clear hx12
            try clear c13
            try clear c22
            try clear c29
            try clear c29b0
            try clear c30
            try clear c30b0
            try clear c34
            try clear c36
            try clear c36b0
            try clear c36b1
            try clear c37
            try clear c37b0
            try clear c38
            try clear c40
            try clear c42
            try clear c42b0
            try clear c43
            try clear c43b0
            try clear c44
            try clear c44b0
            try clear c45
            try clear c49
            try clear hcz14_0 hcz14_1 hcz14_2
            try clear hcz18_0 hcz18_1 hcz18_2
            try clear hcz25_0 hcz25_1 hcz25_2
            try clear hcz32_0 hcz32_1 hcz32_2
            try clear hcz35_0 hcz35_1 hcz35_2 hcz35_3 hcz35_4
            try clear hcz39_0 hcz39_1 hcz39_2 hcz39_3 hcz39_4
            try clear hcz41_0 hcz41_1 hcz41_2 hcz41_3 hcz41_4
            try clear hcz46_0 hcz46_1 hcz46_2 hcz46_3 hcz46_4
            try clear hcz48_0 hcz48_1 hcz48_2
            try clear hcz50_0 hcz50_1 hcz50_2 hcz50_3 hcz50_4
            try clear hcz8_0 hcz8_1 hcz8_2
            try clear hfz14_0 hfz14_1 hfz14_2
            try clear hfz18_0 hfz18_1 hfz18_2
            try clear hfz25_0 hfz25_1 hfz25_2
            try clear hfz32_0 hfz32_1 hfz32_2
            try clear hfz35_0 hfz35_1 hfz35_2 hfz35_3 hfz35_4
            try clear hfz39_0 hfz39_1 hfz39_2 hfz39_3 hfz39_4
            try clear hfz41_0 hfz41_1 hfz41_2 hfz41_3 hfz41_4
            try clear hfz46_0 hfz46_1 hfz46_2 hfz46_3 hfz46_4
            try clear hfz48_0 hfz48_1 hfz48_2
            try clear hfz50_0 hfz50_1 hfz50_2 hfz50_3 hfz50_4
            try clear hfz8_0 hfz8_1 hfz8_2
            try clear hx120_0
            try clear hx120_1
            try clear hx120_2
            try clear hx120_3
            try clear hx120_4
            try clear hx122_0
            try clear hx123_0
            try clear p1
            try clear p12
            try clear p120
            try clear p122
            try clear p123
            try clear p2
            try clear p6
            try clear q1
            try clear q12
            try clear q120
            try clear q122
            try clear q123
            obtain ⟨x10_4, rfl, HA, HK4, HO_6, HO_109002, BK108, BK121, HB⟩ := hrel
            cases gk with
            | zero => exact absurd HA.out (by simp [laws_FnPlanConn.l1])
            | succ k4 =>
             have H := HA.out; clear HA; simp only [laws_FnPlanConn.l1] at H; have HC52 := Aside0.mk H; clear H; go_upto_region 13 with (fail)
             repeat (go_quiet (fail); go_upto_region 13 with (fail))
             go_cut [99] (fun v99 wc => ∃ (kq : Nat) (x99_51 : Bool), v99 = .bool x99_51 ∧ Aside0 (laws_FnPlanConn.j4 kq t106 t107 t109 x7_2 x9_30 x10_4 x99_51 t101 t102 t103 ((rd_T32 t103 x7_2).f0) ((rd_T32 t103 x7_2).f1) ((rd_T32 t103 x7_2).f2) ((rd_T32 t103 x7_2).f3) ((rd_T32 t103 x7_2).f4) = some true) ∧ Aside0 (kq ≤ k4) ∧ Aside0 (Kd.R (Kd.int .i64) 3 wc w.heap.size (fun _ => True) v110 t109) ∧ Aside0 (Kd.R k32 32 wc w.heap.size (fun k_ => k_ ≠ gb121) (.slice (some ad120) t103.length co9) t103) ∧ Aside0 (wc.heap[gb108]? = some (.cells #[.int .i64 t101, .int .i64 t102, (.slice (some ad120) t103.length co9)] 25 (0, 0))) ∧ Aside0 (wc.heap[gb121]? = some (.cells #[.int .i64 ((rd_T32 t103 x7_2).f0), .int .i64 ((rd_T32 t103 x7_2).f1), .int .i64 ((rd_T32 t103 x7_2).f2), .int .i64 ((rd_T32 t103 x7_2).f3), .int .i64 ((rd_T32 t103 x7_2).f4)] 32 (0, 0))) ∧ Aside0 (Below w.heap.size w wc))
             case first =>
              have H := HC52.out; clear HC52; by_cases c53 : x10_4 < (t103.length : Int)
              ·
               rw [if_pos c53] at H; have c53b0 : decide (x10_4 < (t103.length : Int)) = true := decide_eq_true c53; clear c53; (first | rw [c53b0] | (simp only [i64_w, i32_w]; rw [c53b0]) | skip); have H' := Aside0.mk H; clear H; have hnb54 := NB108_121.out; have hnc54 := NB121_108.out; obtain ⟨hcz55_0, hcz55_1, hcz55_2, hfz55_0, hfz55_1, hfz55_2⟩ := bc3 BK108; go_wp2
               repeat (go_quiet (fail); try go_wp2)
               go_meet
               case rel => exact ⟨_, (x9_30), ue, H', ⟨by have := HJ4.out; have := HK2.out; have := HJ30.out; have := HK4.out; first | omega | exact Nat.le_refl _⟩, ⟨ur HO_6⟩, ⟨ur HO_109002⟩, ⟨ub BK108⟩, ⟨ub BK121⟩, ⟨uB2 HB GE108.out GE121.out⟩⟩
              ·
               rw [if_neg c53] at H; have c53b0 : decide (x10_4 < (t103.length : Int)) = false := decide_eq_false c53; clear c53; (first | rw [c53b0] | (simp only [i64_w, i32_w]; rw [c53b0]) | skip); have H' := Aside0.mk H; clear H; have hnb56 := NB108_121.out; have hnc56 := NB121_108.out; obtain ⟨hcz57_0, hcz57_1, hcz57_2, hfz57_0, hfz57_1, hfz57_2⟩ := bc3 BK108; go_wp2
               repeat (go_quiet (fail); try go_wp2)
               go_meet
               case rel => exact ⟨_, (false), ue, H', ⟨by have := HJ4.out; have := HK2.out; have := HJ30.out; have := HK4.out; first | omega | exact Nat.le_refl _⟩, ⟨ur HO_6⟩, ⟨ur HO_109002⟩, ⟨ub BK108⟩, ⟨ub BK121⟩, ⟨uB2 HB GE108.out GE121.out⟩⟩
             case rest =>
              clear HC52; try clear c1
              try clear p1
              try clear q1
              try clear hx1
              try clear c2
              try clear c2b0
              try clear c2b1
              try clear p2
              try clear c3
              try clear c4
              try clear c5
              try clear p6
              try clear p12
              try clear q12
              try clear hx12
              try clear c13
              try clear c22
              try clear c29
              try clear c29b0
              try clear c30
              try clear c30b0
              try clear c34
              try clear c36
              try clear c36b0
              try clear c36b1
              try clear c37
              try clear c37b0
              try clear c38
              try clear c40
              try clear c42
              try clear c42b0
              try clear c43
              try clear c43b0
              try clear c44
              try clear c44b0
              try clear c45
              try clear c49
              try clear c53
              try clear c53b0
              try clear c54
              try clear c56
              try clear hcz14_0 hcz14_1 hcz14_2
              try clear hcz18_0 hcz18_1 hcz18_2
              try clear hcz25_0 hcz25_1 hcz25_2
              try clear hcz32_0 hcz32_1 hcz32_2
              try clear hcz35_0 hcz35_1 hcz35_2 hcz35_3 hcz35_4
              try clear hcz39_0 hcz39_1 hcz39_2 hcz39_3 hcz39_4
              try clear hcz41_0 hcz41_1 hcz41_2 hcz41_3 hcz41_4
              try clear hcz46_0 hcz46_1 hcz46_2 hcz46_3 hcz46_4
              try clear hcz48_0 hcz48_1 hcz48_2
              try clear hcz50_0 hcz50_1 hcz50_2 hcz50_3 hcz50_4
              try clear hcz55_0 hcz55_1 hcz55_2
              try clear hcz57_0 hcz57_1 hcz57_2
              try clear hcz8_0 hcz8_1 hcz8_2
              try clear hfz14_0 hfz14_1 hfz14_2
              try clear hfz18_0 hfz18_1 hfz18_2
              try clear hfz25_0 hfz25_1 hfz25_2
              try clear hfz32_0 hfz32_1 hfz32_2
              try clear hfz35_0 hfz35_1 hfz35_2 hfz35_3 hfz35_4
              try clear hfz39_0 hfz39_1 hfz39_2 hfz39_3 hfz39_4
              try clear hfz41_0 hfz41_1 hfz41_2 hfz41_3 hfz41_4
              try clear hfz46_0 hfz46_1 hfz46_2 hfz46_3 hfz46_4
              try clear hfz48_0 hfz48_1 hfz48_2
              try clear hfz50_0 hfz50_1 hfz50_2 hfz50_3 hfz50_4
              try clear hfz55_0 hfz55_1 hfz55_2
              try clear hfz57_0 hfz57_1 hfz57_2
              try clear hfz8_0 hfz8_1 hfz8_2
              try clear hx120_0
              try clear hx120_1
              try clear hx120_2
              try clear hx120_3
              try clear hx120_4
              try clear hx122_0
              try clear hx123_0
              try clear p1
              try clear p12
              try clear p120
              try clear p122
              try clear p123
              try clear p2
              try clear p6
              try clear q1
              try clear q12
              try clear q120
              try clear q122
              try clear q123
              obtain ⟨kq, x99_51, rfl, HA, HJ51, HO_6, HO_109002, BK108, BK121, HB⟩ := hcut
              cases kq with
              | zero => exact absurd HA.out (by simp [laws_FnPlanConn.j4])
              | succ kj51 =>
               have H := HA.out; clear HA; simp only [laws_FnPlanConn.j4] at H; by_cases c58 : x99_51 = true
               ·
                subst c58; rw [if_pos rfl] at H; by_cases c59 : 0 ≤ x10_4
                ·
                 rw [if_pos c59] at H; have c59b0 : decide (0 ≤ x10_4) = true := decide_eq_true c59; clear c59; by_cases c60 : x10_4 < (t103.length : Int)
                 ·
                  rw [if_pos c60] at H; have c60b0 : decide (x10_4 < (t103.length : Int)) = true := decide_eq_true c60; clear c60; by_cases c61 : ((rd_T32 t103 x10_4).f4) = ((rd_T32 t103 x7_2).f4)
                  ·
                   rw [if_pos c61] at H; have c61b0 : (((rd_T32 t103 x10_4).f4) == ((rd_T32 t103 x7_2).f4)) = true := beq_iff_eq.mpr c61; have c61b1 : (((rd_T32 t103 x10_4).f4) != ((rd_T32 t103 x7_2).f4)) = false := bne_eq_false_iff_eq.mpr c61; clear c61; by_cases c62 : 0 ≤ ((rd_T32 t103 x10_4).f1)
                   ·
                    rw [if_pos c62] at H; have c62b0 : decide (0 ≤ ((rd_T32 t103 x10_4).f1)) = true := decide_eq_true c62; clear c62; by_cases c63 : ((rd_T32 t103 x10_4).f1) < (t109.length : Int)
                    ·
                     rw [if_pos c63] at H; have c63b0 : decide (((rd_T32 t103 x10_4).f1) < (t109.length : Int)) = true := decide_eq_true c63; clear c63; by_cases c64 : (rd t109 ((rd_T32 t103 x10_4).f1)) > ((rd_T32 t103 x10_4).f3)
                     ·
                      rw [if_pos c64] at H; have c64b0 : decide (((rd_T32 t103 x10_4).f3) < (rd t109 ((rd_T32 t103 x10_4).f1))) = true := decide_eq_true c64; clear c64; exact absurd H (by simp)
                     ·
                      rw [if_neg c64] at H; have c64b0 : decide (((rd_T32 t103 x10_4).f3) < (rd t109 ((rd_T32 t103 x10_4).f1))) = false := decide_eq_false c64; clear c64; have H' := Aside0.mk H; clear H; have hnb65 := NB108_121.out; have hnc65 := NB121_108.out; obtain ⟨hcz66_0, hcz66_1, hcz66_2, hfz66_0, hfz66_1, hfz66_2⟩ := bc3 BK108; have p124 : 0 ≤ (x10_4 : Int) := ua; have q124 : x10_4 < (t103.length : Int) := ua; obtain ⟨ad124, e124, hx124_0, hx124_1, hx124_2, hx124_3, hx124_4⟩ := at_T32 (Kd.R_reads' HO_109002.out).2.2 x10_4 p124 q124; obtain rfl : ad120 = ad124 := (by injection e124)
                      replace p124 := eq_true p124; replace q124 := eq_true q124; obtain ⟨hcz67_0, hcz67_1, hcz67_2, hcz67_3, hcz67_4, hfz67_0, hfz67_1, hfz67_2, hfz67_3, hfz67_4⟩ := bc5 BK121; have p125 : 0 ≤ (x10_4 : Int) := ua; have q125 : x10_4 < (t103.length : Int) := ua; obtain ⟨ad125, e125, hx125_0, hx125_1, hx125_2, hx125_3, hx125_4⟩ := at_T32 (Kd.R_reads' HO_109002.out).2.2 x10_4 p125 q125; obtain rfl : ad120 = ad125 := (by injection e125)
                      replace p125 := eq_true p125; replace q125 := eq_true q125; obtain ⟨Ao68, co68, eo68⟩ := Kd.R_slice HO_6.out; subst eo68; have p126 : 0 ≤ (((rd_T32 t103 x10_4).f1) : Int) := ua; have q126 : ((rd_T32 t103 x10_4).f1) < (t109.length : Int) := ua; obtain ⟨ad126, e126, hx126_0⟩ := Kd.at_int (Kd.R_reads' HO_6.out).2.2 ((rd_T32 t103 x10_4).f1) p126 q126
                      cases e126
                      replace p126 := eq_true p126; replace q126 := eq_true q126; have p127 : 0 ≤ (x10_4 : Int) := ua; have q127 : x10_4 < (t103.length : Int) := ua; obtain ⟨ad127, e127, hx127_0, hx127_1, hx127_2, hx127_3, hx127_4⟩ := at_T32 (Kd.R_reads' HO_109002.out).2.2 x10_4 p127 q127; obtain rfl : ad120 = ad127 := (by injection e127)
                      replace p127 := eq_true p127; replace q127 := eq_true q127; go_wp2
                      repeat (go_quiet (fail); try go_wp2)
                      go_roundg kj51
                      case measure => have := HJ4.out; have := HK2.out; have := HJ30.out; have := HK4.out; have := HJ51.out; omega
                      case rel => exact ⟨(wrap64 (x10_4 + 1)), ue, H', ⟨by have := HJ4.out; have := HK2.out; have := HJ30.out; have := HK4.out; have := HJ51.out; omega⟩, ⟨ur HO_6⟩, ⟨ur HO_109002⟩, ⟨ub BK108⟩, ⟨ub BK121⟩, ⟨uB2 HB GE108.out GE121.out⟩⟩
                    ·
                     rw [if_neg c63] at H; exact absurd H (by simp)
                   ·
                    rw [if_neg c62] at H; exact absurd H (by simp)
                  ·
                   rw [if_neg c61] at H; have c61b0 : (((rd_T32 t103 x10_4).f4) == ((rd_T32 t103 x7_2).f4)) = false := beq_eq_false_iff_ne.mpr c61; have c61b1 : (((rd_T32 t103 x10_4).f4) != ((rd_T32 t103 x7_2).f4)) = true := bne_iff_ne.mpr c61; have H' := Aside0.mk H; clear H; have hnb69 := NB108_121.out; have hnc69 := NB121_108.out; obtain ⟨hcz70_0, hcz70_1, hcz70_2, hfz70_0, hfz70_1, hfz70_2⟩ := bc3 BK108; have p124 : 0 ≤ (x10_4 : Int) := ua; have q124 : x10_4 < (t103.length : Int) := ua; obtain ⟨ad124, e124, hx124_0, hx124_1, hx124_2, hx124_3, hx124_4⟩ := at_T32 (Kd.R_reads' HO_109002.out).2.2 x10_4 p124 q124; obtain rfl : ad120 = ad124 := (by injection e124)
                   replace p124 := eq_true p124; replace q124 := eq_true q124; obtain ⟨hcz71_0, hcz71_1, hcz71_2, hcz71_3, hcz71_4, hfz71_0, hfz71_1, hfz71_2, hfz71_3, hfz71_4⟩ := bc5 BK121; go_wp2
                   repeat (go_quiet (fail); try go_wp2)
                   go_roundg kj51
                   case measure => have := HJ4.out; have := HK2.out; have := HJ30.out; have := HK4.out; have := HJ51.out; omega
                   case rel => exact ⟨(wrap64 (x10_4 + 1)), ue, H', ⟨by have := HJ4.out; have := HK2.out; have := HJ30.out; have := HK4.out; have := HJ51.out; omega⟩, ⟨ur HO_6⟩, ⟨ur HO_109002⟩, ⟨ub BK108⟩, ⟨ub BK121⟩, ⟨uB2 HB GE108.out GE121.out⟩⟩
                 ·
                  rw [if_neg c60] at H; exact absurd H (by simp)
                ·
                 rw [if_neg c59] at H; exact absurd H (by simp)
               ·
                replace c58 := Bool.eq_false_iff.mpr c58; subst c58; rw [if_neg (show ¬ (false = true) by decide)] at H; have H' := Aside0.mk H; clear H; go_wp2
                repeat (go_quiet (fail); try go_wp2)
                go_roundg kj51
                case measure => have := HJ4.out; have := HK2.out; have := HJ30.out; have := HK4.out; have := HJ51.out; omega
                case rel => exact ⟨(wrap64 (x7_2 + 1)), ue, H', ⟨by have := HJ4.out; have := HK2.out; have := HJ30.out; have := HK4.out; have := HJ51.out; omega⟩, ⟨ur HO_6⟩, ⟨by (with_reducible repeat (first | apply Kd.R_alloc | apply Kd.R_drewN | apply Kd.R_drew)); exact Kd.R_mono HO_109002.out (fun _ hk => trivial)⟩, ⟨ub BK108⟩, ⟨uB2 HB GE108.out GE121.out⟩⟩
        ·
         rw [if_neg c30] at H; exact absurd H (by simp)
       ·
        rw [if_neg c29] at H; have c29b0 : decide (x7_2 < (t103.length : Int)) = false := decide_eq_false c29; clear c29; clear H; obtain ⟨hcz72_0, hcz72_1, hcz72_2, hfz72_0, hfz72_1, hfz72_2⟩ := bc3 BK108; go_wp2
        repeat (go_quiet (fail); try go_wp2)
        go_ret; exact ⟨by first | rfl | (simp [errW_none, errW_some] <;> rfl) | (simp [*, errW_none, errW_some] <;> rfl) | exact congrArg (fun b_ => Ending.returned (Value.bool b_)) HE_.out, uB1 HB GE108.out⟩

/-- THE ONE PURE STATEMENT of laws_FnPlanConn: yours. -/
def laws_FnPlanConn.Pure : Prop := ∀ (l0 : List Int), l0.length ≤ maxLen → l0.length * 1 ≤ 140737488351232 → (∀ x ∈ l0, (Lit.int .u8 x).wf = true) → ∃ k, laws_FnPlanConn.f k l0 = some true
theorem laws_FnPlanConn.walk (P : laws_FnPlanConn.Pure) (a0 : Option Addr) (len0 cap0 : Nat) (z0 : List Int) (w : World) (w0 : (a0 = none ∧ len0 = 0 ∧ cap0 = 0 ∧ z0 = []) ∨ ∃ x, a0 = some x ∧ len0 ≤ cap0 ∧ cap0 ≤ maxLen ∧ z0.length = cap0 ∧ (∀ i, i < z0.length → w.cell? (x.add i) = some (.int .u8 (z0.getD i 0))) ∧ ∀ n ∈ z0, (Lit.int .u8 n).wf = true) (y0 : len0 * 1 ≤ 140737488351232) :
  Calls Try.prog 3 #[.slice a0 len0 cap0] w fun e w' => e = .returned (.bool true) ∧ Below w.heap.size w w' := by
 obtain ⟨l0, rfl, hr0, hm0, hw0, hc0⟩ := ReadsInt.ofRowC w0
 obtain ⟨k, h⟩ := P l0 hm0 y0 hw0
 refine (laws_FnPlanConn.calls k _ _ l0 w (Kd.C_of_reads (d := (0 : Int)) (h1 := fun _ => rfl) hr0) hc0 h).mono ?_
 rintro e w' ⟨rfl, hd⟩
 exact ⟨rfl, hd⟩

end Go.Proofs.Ytcklifkbodmoaaa.P
