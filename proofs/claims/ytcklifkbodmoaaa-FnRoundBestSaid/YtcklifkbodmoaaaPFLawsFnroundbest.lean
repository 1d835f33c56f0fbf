-- written for this claim by a program (wip/gen/myprint.py over the print tool). Not trusted: Lean checks it.
import Derived.Test.YtcklifkbodmoaaaPx0
import Derived.Test.YtcklifkbodmoaaaHUp
import Derived.Test.YtcklifkbodmoaaaPx2
import Derived.Test.YtcklifkbodmoaaaGPBase
import Derived.Test.YtcklifkbodmoaaaPFImplPlanall
import Derived.Test.YtcklifkbodmoaaaPFImplRoundall
import Derived.Test.YtcklifkbodmoaaaPFSpecDrawroundbest
import Derived.Test.YtcklifkbodmoaaaPFImplRoundbest
import Derived.Test.YtcklifkbodmoaaaPFSpecRoundbest
namespace Go.Proofs.Ytcklifkbodmoaaa.P
open Go.RowKit Go.Proofs.YtcklifkbodmoaaaV.PrintWords Go.Proofs.YtcklifkbodmoaaaV.PrintLast
set_option linter.unusedVariables false
set_option linter.unusedSimpArgs false

attribute [local go_sem high] eqA43
/-! ### laws_FnRoundBest: function 8 -/
mutual
def laws_FnRoundBest.j0 : Nat → Int → Int → Int → List (S43) → List (S43) → Bool → Int → Int → List (S32) → Option (Bool)
 | 0, _, _, _, _, _, _, _, _, _ => none
 | k + 1, x4, x5, x6, x7, x8, x41, x110000, x110001, x110002 => if x41 = true then (some ((x7.length : Int) == (x8.length : Int))) else ((impl_RoundAll.f k x110000 x110001 x110002 x4 x6 6).bind fun t117 => (laws_FnRoundBest.l0 k x4 x5 x6 x7 x8 t117 0 x110000 x110001 x110002))
def laws_FnRoundBest.l0 : Nat → Int → Int → Int → List (S43) → List (S43) → List (List Int) → Int → Int → Int → List (S32) → Option (Bool)
 | 0, _, _, _, _, _, _, _, _, _, _ => none
 | k + 1, x4, x5, x6, x7, x8, x9, x10, x110000, x110001, x110002 => if x10 < (x7.length : Int) then (if 0 ≤ x10 then (if x10 < (x8.length : Int) then (if (!(((rd_T43 x7 x10).f0) == ((rd_T43 x8 x10).f0)) || (!(((rd_T43 x7 x10).f1) == ((rd_T43 x8 x10).f1)))) = true then (some false) else (if 0 ≤ ((rd_T43 x7 x10).f0) then (if ((rd_T43 x7 x10).f0) < (x9.length : Int) then (if 0 ≤ x5 then (if x5 < ((rd_L3 x9 ((rd_T43 x7 x10).f0)).length : Int) then (if (rd (rd_L3 x9 ((rd_T43 x7 x10).f0)) x5) = ((rd_T43 x7 x10).f1) then (if x10 > 0 then (if 0 ≤ (wrap64 (x10 - 1)) then (if (wrap64 (x10 - 1)) < (x7.length : Int) then (if ((rd_T43 x7 x10).f0) ≤ ((rd_T43 x7 (wrap64 (x10 - 1))).f0) then (some false) else (if ((rd_T43 x7 x10).f1) ≥ ((rd_T43 x7 (wrap64 (x10 - 1))).f1) then (some false) else (laws_FnRoundBest.l0 k x4 x5 x6 x7 x8 x9 (wrap64 (x10 + 1)) x110000 x110001 x110002))) else (none)) else (none)) else (laws_FnRoundBest.l0 k x4 x5 x6 x7 x8 x9 (wrap64 (x10 + 1)) x110000 x110001 x110002)) else (some false)) else (none)) else (none)) else (none)) else (none))) else (none)) else (none)) else (if (x7.length : Int) > 0 then (if 0 ≤ (wrap64 ((x7.length : Int) - 1)) then (if (wrap64 ((x7.length : Int) - 1)) < (x7.length : Int) then ((impl_PlanAll.f k x110000 x110001 x110002 x4 x6).bind fun t131 => (if 0 ≤ x5 then (if x5 < (t131.length : Int) then (some (((rd_T43 x7 (wrap64 ((x7.length : Int) - 1))).f1) == (rd t131 x5))) else (none)) else (none))) else (none)) else (none)) else ((impl_PlanAll.f k x110000 x110001 x110002 x4 x6).bind fun t135 => (if 0 ≤ x5 then (if x5 < (t135.length : Int) then (some (99999 == (rd t135 x5))) else (none)) else (none))))
end
def laws_FnRoundBest.f (k : Nat) (l0 : List Int) : Option (Bool) := if (l0.length : Int) > 1048576 then (some true) else ((spec_DrawRoundBest.f k l0).bind fun bt101 => ((impl_RoundBest.f k bt101.1 bt101.2.1 bt101.2.2.1 bt101.2.2.2.1 bt101.2.2.2.2.1 bt101.2.2.2.2.2).bind fun t110 => ((spec_RoundBest.f k bt101.1 bt101.2.1 bt101.2.2.1 bt101.2.2.2.1 bt101.2.2.2.2.1 bt101.2.2.2.2.2).bind fun t113 => (if (t110.length : Int) = (t113.length : Int) then ((impl_PlanOk.f k bt101.1 bt101.2.1 bt101.2.2.1).bind fun t116 => (laws_FnRoundBest.j0 k bt101.2.2.2.1 bt101.2.2.2.2.1 bt101.2.2.2.2.2 t110 t113 (!t116) bt101.1 bt101.2.1 bt101.2.2.1)) else (laws_FnRoundBest.j0 k bt101.2.2.2.1 bt101.2.2.2.2.1 bt101.2.2.2.2.2 t110 t113 true bt101.1 bt101.2.1 bt101.2.2.1)))))
set_option maxHeartbeats 8000000 in
set_option maxRecDepth 100000 in
theorem laws_FnRoundBest.calls (k : Nat) (A0 : Option Addr) (c0 : Nat) (l0 : List Int) (w : World) (hr0 : Kd.C (Kd.int .u8) w A0 l0.length l0) (hc0 : l0.length ≤ c0) (h : laws_FnRoundBest.f k l0 = some true) :
  Calls Try.prog 8 #[.slice A0 l0.length c0] w fun e w' => e = .returned (.bool true) ∧ Below w.heap.size w w' := by
 have hu25 := Try.underlying25
 have hu43 := Try.underlying43
 have HR0 := Aside0.mk hr0
 have HC0 := Aside0.mk hc0
 clear hr0 hc0
 have HB := Aside0.mk (Below.refl w.heap.size w)
 have H : (if (l0.length : Int) > 1048576 then (some true) else ((spec_DrawRoundBest.f k l0).bind fun bt101 => ((impl_RoundBest.f k bt101.1 bt101.2.1 bt101.2.2.1 bt101.2.2.2.1 bt101.2.2.2.2.1 bt101.2.2.2.2.2).bind fun t110 => ((spec_RoundBest.f k bt101.1 bt101.2.1 bt101.2.2.1 bt101.2.2.2.1 bt101.2.2.2.2.1 bt101.2.2.2.2.2).bind fun t113 => (if (t110.length : Int) = (t113.length : Int) then ((impl_PlanOk.f k bt101.1 bt101.2.1 bt101.2.2.1).bind fun t116 => (laws_FnRoundBest.j0 k bt101.2.2.2.1 bt101.2.2.2.2.1 bt101.2.2.2.2.2 t110 t113 (!t116) bt101.1 bt101.2.1 bt101.2.2.1)) else (laws_FnRoundBest.j0 k bt101.2.2.2.1 bt101.2.2.2.2.1 bt101.2.2.2.2.2 t110 t113 true bt101.1 bt101.2.1 bt101.2.2.1)))))) = some true := h
 clear h
 by_cases c2 : (l0.length : Int) > 1048576
 ·
  rw [if_pos c2] at H; have c2b0 := dl c2; have c2b1 : decide (1048576 < l0.length) = true := decide_eq_true (by omega); clear c2; clear H; go_enter Try.func8, Try.ntmps8; go_wp2
  go_ret; exact ⟨by first | rfl | (simp [errW_none, errW_some] <;> rfl) | (simp [*, errW_none, errW_some] <;> rfl) | exact congrArg (fun b_ => Ending.returned (Value.bool b_)) HE_.out, uB0 HB⟩
 ·
  rw [if_neg c2] at H; have c2b0 := DL c2; have c2b1 : decide (1048576 < l0.length) = false := decide_eq_false (by omega); clear c2; replace H := Option.bind_eq_some_iff.mp H; obtain ⟨⟨t101, t102, t103, t106, t107, t108⟩, A30, H⟩ := H; replace H : ((impl_RoundBest.f k t101 t102 t103 t106 t107 t108).bind fun t110 => ((spec_RoundBest.f k t101 t102 t103 t106 t107 t108).bind fun t113 => (if (t110.length : Int) = (t113.length : Int) then ((impl_PlanOk.f k t101 t102 t103).bind fun t116 => (laws_FnRoundBest.j0 k t106 t107 t108 t110 t113 (!t116) t101 t102 t103)) else (laws_FnRoundBest.j0 k t106 t107 t108 t110 t113 true t101 t102 t103)))) = some true := H; have A3 := Aside0.mk A30; clear A30; replace H := Option.bind_eq_some_iff.mp H; obtain ⟨t110, A40, H⟩ := H; replace H : ((spec_RoundBest.f k t101 t102 t103 t106 t107 t108).bind fun t113 => (if (t110.length : Int) = (t113.length : Int) then ((impl_PlanOk.f k t101 t102 t103).bind fun t116 => (laws_FnRoundBest.j0 k t106 t107 t108 t110 t113 (!t116) t101 t102 t103)) else (laws_FnRoundBest.j0 k t106 t107 t108 t110 t113 true t101 t102 t103))) = some true := H; have A4 := Aside0.mk A40; clear A40; replace H := Option.bind_eq_some_iff.mp H; obtain ⟨t113, A50, H⟩ := H; replace H : (if (t110.length : Int) = (t113.length : Int) then ((impl_PlanOk.f k t101 t102 t103).bind fun t116 => (laws_FnRoundBest.j0 k t106 t107 t108 t110 t113 (!t116) t101 t102 t103)) else (laws_FnRoundBest.j0 k t106 t107 t108 t110 t113 true t101 t102 t103)) = some true := H; have A5 := Aside0.mk A50; clear A50; have HC6 := Aside0.mk H; clear H; go_enter Try.func8, Try.ntmps8; go_upto_region 6 with (first | (go_at_call 27; (with_reducible refine (spec_DrawRoundBest.calls k _ _ l0 t101 t102 t103 t106 t107 t108 _ ?side1 ?side2 A3.out).mono ?_); (case side1 => repeat (exact HR0.out)); (case side2 => exact HC0.out); rintro e w7 ⟨v104, rfl, ho0, hb⟩; have HO105 := Aside0.mk (Kd.R_lower ho0 (below_size (uB0 HB))); replace HB := Aside0.mk (below_step (uB0 HB) hb); (try clear hb); (try clear ho0)) | ((with_reducible refine gate_dst (N := 3) rfl ?_); refine be (cs := #[.int .i64 0, .int .i64 0, .slice none 0 0]) (t := 25) ?_; intro gb109 hg w8 hbox hb; replace HO105 := Aside0.mk (Kd.R_below (ur HO105) hb); have BK109 := Aside0.mk (hbox); have GW109 := gz w hg (uB0 HB); have GE109 := gz w hg (uB0 HB); replace HB := Aside0.mk (below_step (uB0 HB) hb); clear hb hbox hg; obtain ⟨hcz9_0, hcz9_1, hcz9_2, hfz9_0, hfz9_1, hfz9_2⟩ := bc3 BK109; obtain ⟨Ao10, co10, eo10⟩ := Kd.R_slice HO105.out; subst eo10) | (go_at_call 28; (with_reducible refine (impl_RoundBest.calls k t101 t102 _ _ t103 t106 t107 t108 t110 _ ?side1 ?side2 A4.out).mono ?_); (case side1 => refine (Kd.R_reads' (e := 32) (base := w.heap.size) (ok := fun k_ => True) (n := t103.length) (c := co10) ?_).2.2; exact (by (with_reducible repeat (first | apply Kd.R_alloc | apply Kd.R_drewN | apply Kd.R_drew)); exact (Kd.R_mono (rf3 HO105 BK109) (fun _ h_ => h_.1)))); (case side2 => exact (Kd.R_reads' HO105.out).2.1); rintro e w11 ⟨v111, rfl, ho0, hb⟩; replace HO105 := Aside0.mk (Kd.R_below (by (with_reducible repeat (first | apply Kd.R_alloc | apply Kd.R_drewN | apply Kd.R_drew)); exact (Kd.R_mono (rf3 HO105 BK109) (fun _ h_ => h_.1))) hb); have HO112 := Aside0.mk (Kd.R_lower ho0 (below_size (uB1 HB GE109.out))); replace BK109 := Aside0.mk (blk_below (g := gb109) (o := .cells #[.int .i64 t101, .int .i64 t102, .slice Ao10 t103.length co10] 25 (0, 0)) (by (with_reducible repeat first | apply zbn | apply zbd | apply zba); refine pu3 (.int .i64 0) (.int .i64 0) (.slice none 0 0) ?_; exact ub BK109) hb); replace HB := Aside0.mk (below_step (uB1 HB GE109.out) hb); (try clear hb); (try clear ho0); obtain ⟨hcz12_0, hcz12_1, hcz12_2, hfz12_0, hfz12_1, hfz12_2⟩ := bc3 BK109) | (go_at_call 29; (with_reducible refine (spec_RoundBest.calls k t101 t102 _ _ t103 t106 t107 t108 t113 _ ?side1 ?side2 A5.out).mono ?_); (case side1 => exact uD (Kd.R_reads' HO105.out).2.2); (case side2 => exact (Kd.R_reads' HO105.out).2.1); rintro e w13 ⟨v114, rfl, ho0, hb⟩; replace HO105 := Aside0.mk (Kd.R_below (ur HO105) hb); have HO115 := Aside0.mk (Kd.R_lower (Kd.R_new' ho0 (Kd.R_lt (ur HO112))) (below_size (uB1 HB GE109.out))); replace HO112 := Aside0.mk (Kd.R_elder' (ur HO112) (Kd.R_base ho0) hb); replace BK109 := bb BK109 hb; replace HB := Aside0.mk (below_step (uB1 HB GE109.out) hb); (try clear hb); (try clear ho0)))
  go_cut [41] (fun v41 wc => ∃ (kq : Nat) (x41_5 : Bool), v41 = .bool x41_5 ∧ Aside0 (laws_FnRoundBest.j0 kq t106 t107 t108 t110 t113 x41_5 t101 t102 t103 = some true) ∧ Aside0 (kq ≤ k) ∧ Aside0 (Kd.R k43 43 wc w.heap.size (fun k_ => some k_ ≠ (v114 : Value).ownBlock) v111 t110) ∧ Aside0 (Kd.R k43 43 wc w.heap.size (fun k_ => some k_ ≠ (v111 : Value).ownBlock) v114 t113) ∧ Aside0 (Kd.R k32 32 wc w.heap.size (fun _ => True) (.slice Ao10 t103.length co10) t103) ∧ Aside0 (wc.heap[gb109]? = some (.cells #[.int .i64 t101, .int .i64 t102, (.slice Ao10 t103.length co10)] 25 (0, 0))) ∧ Aside0 (Below w.heap.size w wc))
  case first =>
   have H := HC6.out; clear HC6; by_cases c14 : (t110.length : Int) = (t113.length : Int)
   ·
    rw [if_pos c14] at H; obtain ⟨c14b0, c14b1⟩ := dq c14; have c14b2 : (t110.length == t113.length) = true := by first | simpa using c14 | (simp at c14 ⊢; omega)
    clear c14; (skip); replace H := Option.bind_eq_some_iff.mp H; obtain ⟨t116, A150, H⟩ := H; replace H : (laws_FnRoundBest.j0 k t106 t107 t108 t110 t113 (!t116) t101 t102 t103) = some true := H; have A15 := Aside0.mk A150; clear A150; have H' := Aside0.mk H; clear H; obtain ⟨Ao16, co16, eo16⟩ := Kd.R_slice HO112.out; subst eo16; obtain ⟨Ao17, co17, eo17⟩ := Kd.R_slice HO115.out; subst eo17; obtain ⟨hcz18_0, hcz18_1, hcz18_2, hfz18_0, hfz18_1, hfz18_2⟩ := bc3 BK109; go_wp2_with ((go_at_call 21; (with_reducible refine (impl_PlanOk.calls k t101 t102 _ _ t103 t116 _ ?side1 ?side2 A15.out).mono ?_); (case side1 => exact uD (Kd.R_reads' HO105.out).2.2); (case side2 => exact (Kd.R_reads' HO105.out).2.1); rintro e w19 ⟨rfl, hb⟩; replace HO105 := Aside0.mk (Kd.R_below (ur HO105) hb); replace HO112 := Aside0.mk (Kd.R_below (ur HO112) hb); replace HO115 := Aside0.mk (Kd.R_below (ur HO115) hb); replace BK109 := bb BK109 hb; replace HB := Aside0.mk (below_step (uB1 HB GE109.out) hb); (try clear hb)))
    go_meet
    case rel => exact ⟨_, (!t116), ue, H', ⟨by first | omega | exact Nat.le_refl _⟩, ⟨by (with_reducible repeat (first | apply Kd.R_alloc | apply Kd.R_drewN | apply Kd.R_drew)); exact Kd.R_mono HO112.out (fun _ hk => hk.2)⟩, ⟨by (with_reducible repeat (first | apply Kd.R_alloc | apply Kd.R_drewN | apply Kd.R_drew)); exact Kd.R_mono HO115.out (fun _ hk => hk.2)⟩, ⟨ur HO105⟩, ⟨ub BK109⟩, ⟨uB1 HB GE109.out⟩⟩
   ·
    rw [if_neg c14] at H; obtain ⟨c14b0, c14b1⟩ := dQ c14; have c14b2 : (t110.length == t113.length) = false := by first | simpa using c14 | (simp at c14 ⊢; omega)
    (skip); have H' := Aside0.mk H; clear H; obtain ⟨Ao20, co20, eo20⟩ := Kd.R_slice HO112.out; subst eo20; obtain ⟨Ao21, co21, eo21⟩ := Kd.R_slice HO115.out; subst eo21; go_wp2
    go_meet
    case rel => exact ⟨_, (true), ue, H', ⟨by first | omega | exact Nat.le_refl _⟩, ⟨by (with_reducible repeat (first | apply Kd.R_alloc | apply Kd.R_drewN | apply Kd.R_drew)); exact Kd.R_mono HO112.out (fun _ hk => hk.2)⟩, ⟨by (with_reducible repeat (first | apply Kd.R_alloc | apply Kd.R_drewN | apply Kd.R_drew)); exact Kd.R_mono HO115.out (fun _ hk => hk.2)⟩, ⟨ur HO105⟩, ⟨ub BK109⟩, ⟨uB1 HB GE109.out⟩⟩
  case rest =>
   clear HC6
   clear c2b0 c2b1 hcz12_0 hcz12_1 hcz12_2 hcz9_0 hcz9_1 hcz9_2 hfz12_0 hfz12_1 hfz12_2 hfz9_0 hfz9_1 hfz9_2
   obtain ⟨kq, x41_5, rfl, HA, HJ5, HO_7, HO_8, HO_110002, BK109, HB⟩ := hcut
   cases kq with
   | zero => exact absurd HA.out (by simp [laws_FnRoundBest.j0])
   | succ kj5 =>
    have H := HA.out; clear HA; simp only [laws_FnRoundBest.j0] at H; by_cases c22 : x41_5 = true
    ·
     subst c22; rw [if_pos rfl] at H; have HE_ := Aside0.mk (Option.some.inj H); clear H; obtain ⟨Ao23, co23, eo23⟩ := Kd.R_slice HO_7.out; subst eo23; obtain ⟨Ao24, co24, eo24⟩ := Kd.R_slice HO_8.out; subst eo24; go_wp2
     go_ret; exact ⟨by first | rfl | (simp [errW_none, errW_some] <;> rfl) | (simp [*, errW_none, errW_some] <;> rfl) | exact congrArg (fun b_ => Ending.returned (Value.bool b_)) HE_.out, uB1 HB GE109.out⟩
    ·
     replace c22 := Bool.eq_false_iff.mpr c22; subst c22; rw [if_neg (show ¬ (false = true) by decide)] at H; replace H := Option.bind_eq_some_iff.mp H; obtain ⟨t117, A250, H⟩ := H; replace H : (laws_FnRoundBest.l0 kj5 t106 t107 t108 t110 t113 t117 0 t101 t102 t103) = some true := H; have A25 := Aside0.mk A250; clear A250; have H' := Aside0.mk H; clear H; obtain ⟨hcz26_0, hcz26_1, hcz26_2, hfz26_0, hfz26_1, hfz26_2⟩ := bc3 BK109; go_wp2_with ((go_at_call 24; (with_reducible refine (impl_RoundAll.calls kj5 t101 t102 _ _ t103 t106 t108 6 t117 _ ?side1 ?side2 A25.out).mono ?_); (case side1 => exact uD (Kd.R_reads' HO_110002.out).2.2); (case side2 => exact (Kd.R_reads' HO_110002.out).2.1); rintro e w27 ⟨v118, rfl, ho0, hb⟩; replace HO_7 := Aside0.mk (Kd.R_below (ur HO_7) hb); replace HO_8 := Aside0.mk (Kd.R_below (ur HO_8) hb); replace HO_110002 := Aside0.mk (Kd.R_below (ur HO_110002) hb); have HO119 := Aside0.mk (Kd.S_lower ho0 (below_size (uB1 HB GE109.out))); replace BK109 := bb BK109 hb; replace HB := Aside0.mk (below_step (uB1 HB GE109.out) hb); (try clear hb); (try clear ho0)))
     go_loopg [10] kj5 (fun kq v10 w' => ∃ (x10_2 : Int), v10 = .int .i64 x10_2 ∧ Aside0 (laws_FnRoundBest.l0 kq t106 t107 t108 t110 t113 t117 x10_2 t101 t102 t103 = some true) ∧ Aside0 (kq ≤ kj5) ∧ Aside0 (Kd.R k43 43 w' w.heap.size (fun k_ => some k_ ≠ (v114 : Value).ownBlock) v111 t110) ∧ Aside0 (Kd.R k43 43 w' w.heap.size (fun k_ => some k_ ≠ (v111 : Value).ownBlock) v114 t113) ∧ Aside0 (Kd.S (Kd.slice 3 (Kd.int .i64)) 28 w' w.heap.size (fun _ => True) v118 t117) ∧ Aside0 (Kd.R k32 32 w' w.heap.size (fun _ => True) (.slice Ao10 t103.length co10) t103) ∧ Aside0 (w'.heap[gb109]? = some (.cells #[.int .i64 t101, .int .i64 t102, (.slice Ao10 t103.length co10)] 25 (0, 0))) ∧ Aside0 (Below w.heap.size w w'))
     case atStart => exact ⟨(0), ue, H', ⟨Nat.le_refl _⟩, ⟨ur HO_7⟩, ⟨ur HO_8⟩, ⟨by (with_reducible repeat (first | apply Kd.S_alloc | apply Kd.S_drewN | apply Kd.S_drew)); exact HO119.out⟩, ⟨ur HO_110002⟩, ⟨ub BK109⟩, ⟨uB1 HB GE109.out⟩⟩
     case round =>
      clear H'
      clear hcz26_0 hcz26_1 hcz26_2 hfz26_0 hfz26_1 hfz26_2
      obtain ⟨x10_2, rfl, HA, HK2, HO_7, HO_8, HO_9, HO_110002, BK109, HB⟩ := hrel
      cases gk with
      | zero => exact absurd HA.out (by simp [laws_FnRoundBest.l0])
      | succ k2 =>
       have H := HA.out; clear HA; simp only [laws_FnRoundBest.l0] at H; by_cases c28 : x10_2 < (t110.length : Int)
       ·
        rw [if_pos c28] at H; have c28b0 := dl c28; clear c28; by_cases c29 : 0 ≤ x10_2
        ·
         rw [if_pos c29] at H; have c29b0 := de c29; clear c29; by_cases c30 : x10_2 < (t113.length : Int)
         ·
          rw [if_pos c30] at H; have c30b0 := dl c30; clear c30; by_cases c31 : (!(((rd_T43 t110 x10_2).f0) == ((rd_T43 t113 x10_2).f0)) || (!(((rd_T43 t110 x10_2).f1) == ((rd_T43 t113 x10_2).f1)))) = true
          ·
           rw [if_pos c31] at H; have c31b0 : (!(((rd_T43 t110 x10_2).f0) == ((rd_T43 t113 x10_2).f0)) || (!(((rd_T43 t110 x10_2).f1) == ((rd_T43 t113 x10_2).f1)))) = true := c31; clear c31; exact absurd H (by simp)
          ·
           rw [if_neg c31] at H; have c31b0 : (!(((rd_T43 t110 x10_2).f0) == ((rd_T43 t113 x10_2).f0)) || (!(((rd_T43 t110 x10_2).f1) == ((rd_T43 t113 x10_2).f1)))) = false := by simpa using c31
           clear c31; by_cases c32 : 0 ≤ ((rd_T43 t110 x10_2).f0)
           ·
            rw [if_pos c32] at H; have c32b0 := de c32; clear c32; by_cases c33 : ((rd_T43 t110 x10_2).f0) < (t117.length : Int)
            ·
             rw [if_pos c33] at H; have c33b0 := dl c33; clear c33; by_cases c34 : 0 ≤ t107
             ·
              rw [if_pos c34] at H; have c34b0 := de c34; clear c34; by_cases c35 : t107 < ((rd_L3 t117 ((rd_T43 t110 x10_2).f0)).length : Int)
              ·
               rw [if_pos c35] at H; have c35b0 := dl c35; clear c35; by_cases c36 : (rd (rd_L3 t117 ((rd_T43 t110 x10_2).f0)) t107) = ((rd_T43 t110 x10_2).f1)
               ·
                rw [if_pos c36] at H; obtain ⟨c36b0, c36b1⟩ := dq c36; clear c36; by_cases c37 : x10_2 > 0
                ·
                 rw [if_pos c37] at H; have c37b0 := dl c37; clear c37; obtain ⟨ji38, hji38⟩ : ∃ j_ : Int, (wrap64 (x10_2 - 1)) = j_ := ⟨_, rfl⟩
                 replace H : (if 0 ≤ (ji38) then (if (ji38) < (t110.length : Int) then (if ((rd_T43 t110 x10_2).f0) ≤ ((rd_T43 t110 (ji38)).f0) then (some false) else (if ((rd_T43 t110 x10_2).f1) ≥ ((rd_T43 t110 (ji38)).f1) then (some false) else (laws_FnRoundBest.l0 k2 t106 t107 t108 t110 t113 t117 (wrap64 (x10_2 + 1)) t101 t102 t103))) else (none)) else (none)) = some true := by first | (rw [hji38] at H; exact H) | (simp only [hji38] at H ⊢; exact H)
                 have hji38w : (IntKind.i64.wrap (x10_2 - 1)) = ji38 := (i64_w _).trans hji38; by_cases c39 : 0 ≤ (ji38)
                 ·
                  rw [if_pos c39] at H; have c39b0 := de c39; clear c39; by_cases c40 : (ji38) < (t110.length : Int)
                  ·
                   rw [if_pos c40] at H; have c40b0 := dl c40; clear c40; by_cases c41 : ((rd_T43 t110 x10_2).f0) ≤ ((rd_T43 t110 (ji38)).f0)
                   ·
                    rw [if_pos c41] at H; have c41b0 := de c41; clear c41; exact absurd H (by simp)
                   ·
                    rw [if_neg c41] at H; have c41b0 := DE c41; clear c41; by_cases c42 : ((rd_T43 t110 x10_2).f1) ≥ ((rd_T43 t110 (ji38)).f1)
                    ·
                     rw [if_pos c42] at H; have c42b0 := de c42; clear c42; exact absurd H (by simp)
                    ·
                     rw [if_neg c42] at H; have c42b0 := DE c42; clear c42; have H' := Aside0.mk H; clear H; obtain ⟨Ao43, co43, eo43⟩ := Kd.R_slice HO_7.out; subst eo43; have p120 : 0 ≤ (x10_2 : Int) := ua; have q120 : x10_2 < (t110.length : Int) := ua; obtain ⟨ad120, e120, hx120_0, hx120_1⟩ := at_T43 (Kd.R_reads' HO_7.out).2.2 x10_2 p120 q120
                     cases e120
                     replace p120 := eq_true p120; replace q120 := eq_true q120; obtain ⟨Ao44, co44, eo44⟩ := Kd.R_slice HO_8.out; subst eo44; have p121 : 0 ≤ (x10_2 : Int) := ua; have q121 : x10_2 < (t113.length : Int) := ua; obtain ⟨ad121, e121, hx121_0, hx121_1⟩ := at_T43 (Kd.R_reads' HO_8.out).2.2 x10_2 p121 q121
                     cases e121
                     replace p121 := eq_true p121; replace q121 := eq_true q121; have p122 : 0 ≤ (x10_2 : Int) := ua; have q122 : x10_2 < (t110.length : Int) := ua; obtain ⟨ad122, e122, hx122_0, hx122_1⟩ := at_T43 (Kd.R_reads' HO_7.out).2.2 x10_2 p122 q122; obtain rfl : ad120 = ad122 := (by injection e122)
                     replace p122 := eq_true p122; replace q122 := eq_true q122; obtain ⟨Ao45, co45, eo45⟩ := Kd.S_slice HO_9.out; subst eo45; have p123 : 0 ≤ (((rd_T43 t110 x10_2).f0) : Int) := ua; have q123 : ((rd_T43 t110 x10_2).f0) < (t117.length : Int) := ua; obtain ⟨ad123, A123_0, c123_0, e123, hx123_0, hl123_0, hi123_0⟩ := at_L3 (Kd.S_reads' HO_9.out).2.2 ((rd_T43 t110 x10_2).f0) p123 q123
                     cases e123
                     obtain ⟨ce123, hce123, hMe123, hcc123⟩ := Kd.S_get HO_9.out [] ((rd_T43 t110 x10_2).f0) p123 (by first | exact q123 | exact ua | (have e_ := (Kd.S_reads' HO_9.out).1; omega)); obtain ⟨ve123_0, rfl, ge123_0⟩ := hMe123; have hv123_0 := hcc123 0 _ rfl; rw [Nat.add_zero, show ((Kd.slice 3 (Kd.int .i64))).sz = 1 from rfl, Nat.mul_one] at hv123_0; replace hv123_0 := Option.some.inj (hv123_0.symm.trans hx123_0); rw [hv123_0] at ge123_0; have HL123_0 := Aside0.mk (show Kd.R (Kd.int .i64) 3 _ _ _ _ (rd_L3 t117 ((rd_T43 t110 x10_2).f0)) from ge123_0); clear hv123_0 ge123_0; clear hcc123 hce123; have HR123_0 := Aside0.mk hi123_0; have HC123_0 := Aside0.mk hl123_0; clear hi123_0 hl123_0; replace p123 := eq_true p123; replace q123 := eq_true q123; have p124 : 0 ≤ (t107 : Int) := ua; have q124 : t107 < ((rd_L3 t117 ((rd_T43 t110 x10_2).f0)).length : Int) := ua; obtain ⟨ad124, e124, hx124_0⟩ := Kd.at_int (by repeat ((with_reducible exact HR123_0.out))) t107 p124 q124
                     cases e124
                     replace p124 := eq_true p124; replace q124 := eq_true q124; have p125 : 0 ≤ (x10_2 : Int) := ua; have q125 : x10_2 < (t110.length : Int) := ua; obtain ⟨ad125, e125, hx125_0, hx125_1⟩ := at_T43 (Kd.R_reads' HO_7.out).2.2 x10_2 p125 q125; obtain rfl : ad120 = ad125 := (by injection e125)
                     replace p125 := eq_true p125; replace q125 := eq_true q125; have p126 : 0 ≤ (x10_2 : Int) := ua; have q126 : x10_2 < (t110.length : Int) := ua; obtain ⟨ad126, e126, hx126_0, hx126_1⟩ := at_T43 (Kd.R_reads' HO_7.out).2.2 x10_2 p126 q126; obtain rfl : ad120 = ad126 := (by injection e126)
                     replace p126 := eq_true p126; replace q126 := eq_true q126; have p127 : 0 ≤ ((ji38) : Int) := ua; have q127 : (ji38) < (t110.length : Int) := ua; obtain ⟨ad127, e127, hx127_0, hx127_1⟩ := at_T43 (Kd.R_reads' HO_7.out).2.2 (ji38) p127 q127; obtain rfl : ad120 = ad127 := (by injection e127)
                     replace p127 := eq_true p127; replace q127 := eq_true q127; have p128 : 0 ≤ (x10_2 : Int) := ua; have q128 : x10_2 < (t110.length : Int) := ua; obtain ⟨ad128, e128, hx128_0, hx128_1⟩ := at_T43 (Kd.R_reads' HO_7.out).2.2 x10_2 p128 q128; obtain rfl : ad120 = ad128 := (by injection e128)
                     replace p128 := eq_true p128; replace q128 := eq_true q128; have p129 : 0 ≤ ((ji38) : Int) := ua; have q129 : (ji38) < (t110.length : Int) := ua; obtain ⟨ad129, e129, hx129_0, hx129_1⟩ := at_T43 (Kd.R_reads' HO_7.out).2.2 (ji38) p129 q129; obtain rfl : ad120 = ad129 := (by injection e129)
                     replace p129 := eq_true p129; replace q129 := eq_true q129; go_wp2
                     repeat (go_quiet (fail); try go_wp2)
                     go_roundg k2
                     case measure => have := HJ5.out; have := HK2.out; omega
                     case rel => exact ⟨(wrap64 (x10_2 + 1)), ue, H', ⟨by have := HJ5.out; have := HK2.out; omega⟩, ⟨ur HO_7⟩, ⟨ur HO_8⟩, ⟨by (with_reducible repeat (apply Kd.S_drewN)); exact HO_9.out⟩, ⟨ur HO_110002⟩, ⟨ub BK109⟩, ⟨uB1 HB GE109.out⟩⟩
                  ·
                   rw [if_neg c40] at H; exact absurd H (by simp)
                 ·
                  rw [if_neg c39] at H; exact absurd H (by simp)
                ·
                 rw [if_neg c37] at H; have c37b0 := DL c37; clear c37; have H' := Aside0.mk H; clear H; obtain ⟨Ao46, co46, eo46⟩ := Kd.R_slice HO_7.out; subst eo46; have p120 : 0 ≤ (x10_2 : Int) := ua; have q120 : x10_2 < (t110.length : Int) := ua; obtain ⟨ad120, e120, hx120_0, hx120_1⟩ := at_T43 (Kd.R_reads' HO_7.out).2.2 x10_2 p120 q120
                 cases e120
                 replace p120 := eq_true p120; replace q120 := eq_true q120; obtain ⟨Ao47, co47, eo47⟩ := Kd.R_slice HO_8.out; subst eo47; have p121 : 0 ≤ (x10_2 : Int) := ua; have q121 : x10_2 < (t113.length : Int) := ua; obtain ⟨ad121, e121, hx121_0, hx121_1⟩ := at_T43 (Kd.R_reads' HO_8.out).2.2 x10_2 p121 q121
                 cases e121
                 replace p121 := eq_true p121; replace q121 := eq_true q121; have p122 : 0 ≤ (x10_2 : Int) := ua; have q122 : x10_2 < (t110.length : Int) := ua; obtain ⟨ad122, e122, hx122_0, hx122_1⟩ := at_T43 (Kd.R_reads' HO_7.out).2.2 x10_2 p122 q122; obtain rfl : ad120 = ad122 := (by injection e122)
                 replace p122 := eq_true p122; replace q122 := eq_true q122; obtain ⟨Ao48, co48, eo48⟩ := Kd.S_slice HO_9.out; subst eo48; have p123 : 0 ≤ (((rd_T43 t110 x10_2).f0) : Int) := ua; have q123 : ((rd_T43 t110 x10_2).f0) < (t117.length : Int) := ua; obtain ⟨ad123, A123_0, c123_0, e123, hx123_0, hl123_0, hi123_0⟩ := at_L3 (Kd.S_reads' HO_9.out).2.2 ((rd_T43 t110 x10_2).f0) p123 q123
                 cases e123
                 obtain ⟨ce123, hce123, hMe123, hcc123⟩ := Kd.S_get HO_9.out [] ((rd_T43 t110 x10_2).f0) p123 (by first | exact q123 | exact ua | (have e_ := (Kd.S_reads' HO_9.out).1; omega)); obtain ⟨ve123_0, rfl, ge123_0⟩ := hMe123; have hv123_0 := hcc123 0 _ rfl; rw [Nat.add_zero, show ((Kd.slice 3 (Kd.int .i64))).sz = 1 from rfl, Nat.mul_one] at hv123_0; replace hv123_0 := Option.some.inj (hv123_0.symm.trans hx123_0); rw [hv123_0] at ge123_0; have HL123_0 := Aside0.mk (show Kd.R (Kd.int .i64) 3 _ _ _ _ (rd_L3 t117 ((rd_T43 t110 x10_2).f0)) from ge123_0); clear hv123_0 ge123_0; clear hcc123 hce123; have HR123_0 := Aside0.mk hi123_0; have HC123_0 := Aside0.mk hl123_0; clear hi123_0 hl123_0; replace p123 := eq_true p123; replace q123 := eq_true q123; have p124 : 0 ≤ (t107 : Int) := ua; have q124 : t107 < ((rd_L3 t117 ((rd_T43 t110 x10_2).f0)).length : Int) := ua; obtain ⟨ad124, e124, hx124_0⟩ := Kd.at_int (by repeat ((with_reducible exact HR123_0.out))) t107 p124 q124
                 cases e124
                 replace p124 := eq_true p124; replace q124 := eq_true q124; have p125 : 0 ≤ (x10_2 : Int) := ua; have q125 : x10_2 < (t110.length : Int) := ua; obtain ⟨ad125, e125, hx125_0, hx125_1⟩ := at_T43 (Kd.R_reads' HO_7.out).2.2 x10_2 p125 q125; obtain rfl : ad120 = ad125 := (by injection e125)
                 replace p125 := eq_true p125; replace q125 := eq_true q125; go_wp2
                 repeat (go_quiet (fail); try go_wp2)
                 go_roundg k2
                 case measure => have := HJ5.out; have := HK2.out; omega
                 case rel => exact ⟨(wrap64 (x10_2 + 1)), ue, H', ⟨by have := HJ5.out; have := HK2.out; omega⟩, ⟨ur HO_7⟩, ⟨ur HO_8⟩, ⟨by (with_reducible repeat (apply Kd.S_drewN)); exact HO_9.out⟩, ⟨ur HO_110002⟩, ⟨ub BK109⟩, ⟨uB1 HB GE109.out⟩⟩
               ·
                rw [if_neg c36] at H; obtain ⟨c36b0, c36b1⟩ := dQ c36; exact absurd H (by simp)
              ·
               rw [if_neg c35] at H; exact absurd H (by simp)
             ·
              rw [if_neg c34] at H; exact absurd H (by simp)
            ·
             rw [if_neg c33] at H; exact absurd H (by simp)
           ·
            rw [if_neg c32] at H; exact absurd H (by simp)
         ·
          rw [if_neg c30] at H; exact absurd H (by simp)
        ·
         rw [if_neg c29] at H; exact absurd H (by simp)
       ·
        rw [if_neg c28] at H; have c28b0 := DL c28; clear c28; by_cases c49 : (t110.length : Int) > 0
        ·
         rw [if_pos c49] at H; have c49b0 := dl c49; have c49b1 : decide (0 < t110.length) = true := decide_eq_true (by omega); clear c49; obtain ⟨ji50, hji50⟩ : ∃ j_ : Int, (wrap64 ((t110.length : Int) - 1)) = j_ := ⟨_, rfl⟩
         replace H : (if 0 ≤ (ji50) then (if (ji50) < (t110.length : Int) then ((impl_PlanAll.f k2 t101 t102 t103 t106 t108).bind fun t131 => (if 0 ≤ t107 then (if t107 < (t131.length : Int) then (some (((rd_T43 t110 (ji50)).f1) == (rd t131 t107))) else (none)) else (none))) else (none)) else (none)) = some true := by first | (rw [hji50] at H; exact H) | (simp only [hji50] at H ⊢; exact H)
         have hji50w : (IntKind.i64.wrap ((t110.length : Int) - 1)) = ji50 := (i64_w _).trans hji50; by_cases c51 : 0 ≤ (ji50)
         ·
          rw [if_pos c51] at H; have c51b0 := de c51; clear c51; by_cases c52 : (ji50) < (t110.length : Int)
          ·
           rw [if_pos c52] at H; have c52b0 := dl c52; clear c52; replace H := Option.bind_eq_some_iff.mp H; obtain ⟨t131, A530, H⟩ := H; replace H : (if 0 ≤ t107 then (if t107 < (t131.length : Int) then (some (((rd_T43 t110 (ji50)).f1) == (rd t131 t107))) else (none)) else (none)) = some true := H; have A53 := Aside0.mk A530; clear A530; by_cases c54 : 0 ≤ t107
           ·
            rw [if_pos c54] at H; have c54b0 := de c54; clear c54; by_cases c55 : t107 < (t131.length : Int)
            ·
             rw [if_pos c55] at H; have c55b0 := dl c55; clear c55; have HE_ := Aside0.mk (Option.some.inj H); clear H; obtain ⟨Ao56, co56, eo56⟩ := Kd.R_slice HO_7.out; subst eo56; have p130 : 0 ≤ ((ji50) : Int) := ua; have q130 : (ji50) < (t110.length : Int) := ua; obtain ⟨ad130, e130, hx130_0, hx130_1⟩ := at_T43 (Kd.R_reads' HO_7.out).2.2 (ji50) p130 q130
             cases e130
             replace p130 := eq_true p130; replace q130 := eq_true q130; obtain ⟨hcz57_0, hcz57_1, hcz57_2, hfz57_0, hfz57_1, hfz57_2⟩ := bc3 BK109; go_wp2_with ((go_at_call 18; (with_reducible refine (impl_PlanAll.calls k2 t101 t102 _ _ t103 t106 t108 t131 _ ?side1 ?side2 A53.out).mono ?_); (case side1 => exact uD (Kd.R_reads' HO_110002.out).2.2); (case side2 => exact (Kd.R_reads' HO_110002.out).2.1); rintro e w58 ⟨v132, rfl, ho0, hb⟩; replace HO_7 := Aside0.mk (Kd.R_below (ur HO_7) hb); replace HO_8 := Aside0.mk (Kd.R_below (ur HO_8) hb); replace HO_9 := Aside0.mk (Kd.S_elder' (by (with_reducible repeat (first | apply Kd.S_alloc | apply Kd.S_drewN | apply Kd.S_drew)); exact HO_9.out) (Kd.R_base ho0) hb); replace HO_110002 := Aside0.mk (Kd.R_below (ur HO_110002) hb); have HO133 := Aside0.mk (Kd.R_lower ho0 (below_size (uB1 HB GE109.out))); replace BK109 := bb BK109 hb; replace HB := Aside0.mk (below_step (uB1 HB GE109.out) hb); (try clear hb); (try clear ho0); obtain ⟨Ao59, co59, eo59⟩ := Kd.R_slice HO133.out; subst eo59; have p134 : 0 ≤ (t107 : Int) := ua; have q134 : t107 < (t131.length : Int) := ua; obtain ⟨ad134, e134, hx134_0⟩ := Kd.at_int (Kd.R_reads' HO133.out).2.2 t107 p134 q134; cases e134; replace p134 := eq_true p134; replace q134 := eq_true q134))
             go_ret; exact ⟨by first | rfl | (simp [errW_none, errW_some] <;> rfl) | (simp only [← hji50]; first | rfl | (simp [errW_none, errW_some] <;> rfl)) | (simp [*, errW_none, errW_some] <;> rfl) | exact congrArg (fun b_ => Ending.returned (Value.bool b_)) HE_.out, uB1 HB GE109.out⟩
            ·
             rw [if_neg c55] at H; exact absurd H (by simp)
           ·
            rw [if_neg c54] at H; exact absurd H (by simp)
          ·
           rw [if_neg c52] at H; exact absurd H (by simp)
         ·
          rw [if_neg c51] at H; exact absurd H (by simp)
        ·
         rw [if_neg c49] at H; have c49b0 := DL c49; have c49b1 : decide (0 < t110.length) = false := decide_eq_false (by omega); clear c49; replace H := Option.bind_eq_some_iff.mp H; obtain ⟨t135, A600, H⟩ := H; replace H : (if 0 ≤ t107 then (if t107 < (t135.length : Int) then (some (99999 == (rd t135 t107))) else (none)) else (none)) = some true := H; have A60 := Aside0.mk A600; clear A600; by_cases c61 : 0 ≤ t107
         ·
          rw [if_pos c61] at H; have c61b0 := de c61; clear c61; by_cases c62 : t107 < (t135.length : Int)
          ·
           rw [if_pos c62] at H; have c62b0 := dl c62; clear c62; have HE_ := Aside0.mk (Option.some.inj H); clear H; obtain ⟨Ao63, co63, eo63⟩ := Kd.R_slice HO_7.out; subst eo63; obtain ⟨hcz64_0, hcz64_1, hcz64_2, hfz64_0, hfz64_1, hfz64_2⟩ := bc3 BK109; go_wp2_with ((go_at_call 18; (with_reducible refine (impl_PlanAll.calls k2 t101 t102 _ _ t103 t106 t108 t135 _ ?side1 ?side2 A60.out).mono ?_); (case side1 => exact uD (Kd.R_reads' HO_110002.out).2.2); (case side2 => exact (Kd.R_reads' HO_110002.out).2.1); rintro e w65 ⟨v136, rfl, ho0, hb⟩; replace HO_7 := Aside0.mk (Kd.R_below (ur HO_7) hb); replace HO_8 := Aside0.mk (Kd.R_below (ur HO_8) hb); replace HO_9 := Aside0.mk (Kd.S_elder' (by (with_reducible repeat (first | apply Kd.S_alloc | apply Kd.S_drewN | apply Kd.S_drew)); exact HO_9.out) (Kd.R_base ho0) hb); replace HO_110002 := Aside0.mk (Kd.R_below (ur HO_110002) hb); have HO137 := Aside0.mk (Kd.R_lower ho0 (below_size (uB1 HB GE109.out))); replace BK109 := bb BK109 hb; replace HB := Aside0.mk (below_step (uB1 HB GE109.out) hb); (try clear hb); (try clear ho0); obtain ⟨Ao66, co66, eo66⟩ := Kd.R_slice HO137.out; subst eo66; have p138 : 0 ≤ (t107 : Int) := ua; have q138 : t107 < (t135.length : Int) := ua; obtain ⟨ad138, e138, hx138_0⟩ := Kd.at_int (Kd.R_reads' HO137.out).2.2 t107 p138 q138; cases e138; replace p138 := eq_true p138; replace q138 := eq_true q138))
           go_ret; exact ⟨by first | rfl | (simp [errW_none, errW_some] <;> rfl) | (simp [*, errW_none, errW_some] <;> rfl) | exact congrArg (fun b_ => Ending.returned (Value.bool b_)) HE_.out, uB1 HB GE109.out⟩
          ·
           rw [if_neg c62] at H; exact absurd H (by simp)
         ·
          rw [if_neg c61] at H; exact absurd H (by simp)

/-- THE ONE PURE STATEMENT of laws_FnRoundBest: yours. -/
def laws_FnRoundBest.Pure : Prop := ∀ (l0 : List Int), l0.length ≤ maxLen → l0.length * 1 ≤ 140737488351232 → (∀ x ∈ l0, (Lit.int .u8 x).wf = true) → ∃ k, laws_FnRoundBest.f k l0 = some true
theorem laws_FnRoundBest.walk (P : laws_FnRoundBest.Pure) (a0 : Option Addr) (len0 cap0 : Nat) (z0 : List Int) (w : World) (w0 : (a0 = none ∧ len0 = 0 ∧ cap0 = 0 ∧ z0 = []) ∨ ∃ x, a0 = some x ∧ len0 ≤ cap0 ∧ cap0 ≤ maxLen ∧ z0.length = cap0 ∧ (∀ i, i < z0.length → w.cell? (x.add i) = some (.int .u8 (z0.getD i 0))) ∧ ∀ n ∈ z0, (Lit.int .u8 n).wf = true) (y0 : len0 * 1 ≤ 140737488351232) :
  Calls Try.prog 8 #[.slice a0 len0 cap0] w fun e w' => e = .returned (.bool true) ∧ Below w.heap.size w w' := by
 obtain ⟨l0, rfl, hr0, hm0, hw0, hc0⟩ := ReadsInt.ofRowC w0
 obtain ⟨k, h⟩ := P l0 hm0 y0 hw0
 refine (laws_FnRoundBest.calls k _ _ l0 w (Kd.C_of_reads (d := (0 : Int)) (h1 := fun _ => rfl) hr0) hc0 h).mono ?_
 rintro e w' ⟨rfl, hd⟩
 exact ⟨rfl, hd⟩

end Go.Proofs.Ytcklifkbodmoaaa.P
