-- written for this claim by a program (wip/gen/myprint.py over the print tool). Not trusted: Lean checks it.
import Derived.Test.YtblpdfgplifccaaPx0
import Derived.Test.YtblpdfgplifccaaHUp
import Derived.Test.YtblpdfgplifccaaGWk
import Derived.Test.YtblpdfgplifccaaPFSpecDrawmarkpick
import Derived.Test.YtblpdfgplifccaaPFSpecMarkpick
import Derived.Test.YtblpdfgplifccaaHNet
import Derived.Test.YtblpdfgplifccaaHPick
namespace Go.Proofs.Ytblpdfgplifccaa.P
open Go.RowKit Go.Proofs.YtblpdfgplifccaaV.PrintWords Go.Proofs.YtblpdfgplifccaaV.PrintLast
set_option linter.unusedVariables false
set_option linter.unusedSimpArgs false

/-! ### laws_FnMarkPick: function 9 -/
mutual
def laws_FnMarkPick.j0 : Nat → Int → List Int → Bool → Int → List (S33) → Option (Bool)
 | 0, _, _, _, _, _ => none
 | k + 1, x4, x5, x34, x107000, x107001 => if x34 = true then ((spec_MarkPick.f k x107000 x107001 x4).bind fun t115 => ((laws_wkInts.f k x5 t115).bind fun t118 => (some t118))) else (laws_FnMarkPick.l0 k x4 x5 0 x107000 x107001)
def laws_FnMarkPick.l0 : Nat → Int → List Int → Int → Int → List (S33) → Option (Bool)
 | 0, _, _, _, _, _ => none
 | k + 1, x4, x5, x6, x107000, x107001 => if x6 < (x5.length : Int) then (if 0 ≤ x6 then (if x6 ≤ (x5.length : Int) then ((laws_wkIn.f k (x5.take (x6 : Int).toNat) (rd x5 x6)).bind fun t124 => (if t124 = true then (some false) else (if (rd x5 x6) < 0 then (some false) else (if (rd x5 x6) ≥ x107000 then (some false) else (laws_FnMarkPick.l0 k x4 x5 (wrap64 (x6 + 1)) x107000 x107001))))) else (none)) else (none)) else (if (x5.length : Int) = x4 then (if x4 = 0 then (some true) else ((impl_MarkPick.f k x107000 x107001 (wrap64 (x4 - 1))).bind fun t127 => (if 0 ≤ (wrap64 (x4 - 1)) then (if (wrap64 (x4 - 1)) ≤ (x5.length : Int) then ((laws_wkInts.f k t127 (x5.take ((wrap64 (x4 - 1)) : Int).toNat)).bind fun t134 => (some t134)) else (none)) else (none)))) else (some false))
end
def laws_FnMarkPick.f (k : Nat) (l0 : List Int) : Option (Bool) := if (l0.length : Int) > 1048576 then (some true) else ((spec_DrawMarkPick.f k l0).bind fun bt101 => ((impl_MarkPick.f k bt101.1 bt101.2.1 bt101.2.2).bind fun t107 => ((spec_MarkPick.f k bt101.1 bt101.2.1 bt101.2.2).bind fun t110 => ((laws_wkInts.f k t107 t110).bind fun t113 => (if t113 = true then ((impl_NetOk.f bt101.1 bt101.2.1).bind fun t114 => (if t114 = true then (laws_FnMarkPick.j0 k bt101.2.2 t107 (decide (bt101.2.2 > bt101.1)) bt101.1 bt101.2.1) else (laws_FnMarkPick.j0 k bt101.2.2 t107 true bt101.1 bt101.2.1))) else (laws_FnMarkPick.j0 k bt101.2.2 t107 true bt101.1 bt101.2.1))))))
def laws_FnMarkPick.T10 : Bool × List (List Nat × List Nat) := (true, [([], []), ([], []), ([0, 1], [0, 1]), ([], []), ([], []), ([3, 4], [3, 4]), ([5], [5]), ([2, 6], [2, 6]), ([7, 7], [7]), ([8], [8]), ([8], [8]), ([9, 10, 8], [8, 9, 10]), ([11, 8], [8, 11]), ([12, 8], [8, 12]), ([8, 13], [8, 13]), ([14, 8], [14]), ([15], [15]), ([15], [15]), ([16, 17, 15], [15, 16, 17]), ([18, 15], [15, 18]), ([15], [15]), ([20, 15], [15, 20]), ([19, 21, 15], [15, 19, 21]), ([15, 22], [15, 22])])
def laws_FnMarkPick.B10 : List Nat := [0, 0, 3, 0, 0, 24, 56, 127, 255, 511, 511, 2047, 4095, 8191, 16383, 32767, 65535, 65535, 262143, 524287, 65535, 1114111, 4194303, 8388607]
theorem laws_FnMarkPick.tab10 : rtab .any (opsOf Try.f9 10) = laws_FnMarkPick.T10 := by kernel_rfl
theorem laws_FnMarkPick.bits10 : waitsOk laws_FnMarkPick.T10.2 laws_FnMarkPick.B10 = true := by kernel_rfl
def laws_FnMarkPick.T12 : Bool × List (List Nat × List Nat) := (true, [([], []), ([0], [0]), ([], []), ([1, 2], [1, 2]), ([3], [3]), ([4], [4]), ([5, 4], [4, 5]), ([6, 4, 4], [4, 6]), ([7], [7]), ([7], [7]), ([9, 7], [7, 9]), ([8, 10, 7, 7], [7, 8, 10]), ([7], [7]), ([7], [7]), ([13, 7], [7, 13]), ([12, 14, 7], [7, 12, 14]), ([11, 15, 11, 7], [7, 11, 15]), ([7, 16, 4], [4, 7, 16]), ([4, 17], [4, 17]), ([18, 16, 0, 1, 2, 3, 4, 5, 6, 7, 8, 9, 10, 11, 12, 13, 14, 15, 16, 17, 18], [18])])
def laws_FnMarkPick.B12 : List Nat := [0, 1, 0, 7, 15, 31, 63, 127, 255, 255, 767, 2047, 255, 255, 8447, 28927, 65535, 131071, 262143, 524287]
theorem laws_FnMarkPick.tab12 : rtab .any (opsOf Try.f9 12) = laws_FnMarkPick.T12 := by kernel_rfl
theorem laws_FnMarkPick.bits12 : waitsOk laws_FnMarkPick.T12.2 laws_FnMarkPick.B12 = true := by kernel_rfl
set_option maxHeartbeats 8000000 in
set_option maxRecDepth 100000 in
theorem laws_FnMarkPick.calls (k : Nat) (A0 : Option Addr) (c0 : Nat) (l0 : List Int) (w : World) (hr0 : Kd.C (Kd.int .u8) w A0 l0.length l0) (hc0 : l0.length ≤ c0) (h : laws_FnMarkPick.f k l0 = some true) :
  Calls Try.prog 9 #[.slice A0 l0.length c0] w fun e w' => e = .returned (.bool true) ∧ Below w.heap.size w w' := by
 have hu25 := Try.underlying25
 have HR0 := Aside0.mk hr0
 have HC0 := Aside0.mk hc0
 clear hr0 hc0
 have HB := Aside0.mk (Below.refl w.heap.size w)
 have H : (if (l0.length : Int) > 1048576 then (some true) else ((spec_DrawMarkPick.f k l0).bind fun bt101 => ((impl_MarkPick.f k bt101.1 bt101.2.1 bt101.2.2).bind fun t107 => ((spec_MarkPick.f k bt101.1 bt101.2.1 bt101.2.2).bind fun t110 => ((laws_wkInts.f k t107 t110).bind fun t113 => (if t113 = true then ((impl_NetOk.f bt101.1 bt101.2.1).bind fun t114 => (if t114 = true then (laws_FnMarkPick.j0 k bt101.2.2 t107 (decide (bt101.2.2 > bt101.1)) bt101.1 bt101.2.1) else (laws_FnMarkPick.j0 k bt101.2.2 t107 true bt101.1 bt101.2.1))) else (laws_FnMarkPick.j0 k bt101.2.2 t107 true bt101.1 bt101.2.1))))))) = some true := h
 clear h
 by_cases c2 : (l0.length : Int) > 1048576
 ·
  rw [if_pos c2] at H; have c2b0 := dl c2; have c2b1 : decide (1048576 < l0.length) = true := decide_eq_true (by omega); clear c2; clear H; go_enter Try.func9, Try.ntmps9; go_wp2; go_ret; exact ⟨by first | rfl | (simp [errW_none, errW_some] <;> rfl) | (simp [*, errW_none, errW_some] <;> rfl) | exact congrArg (fun b_ => Ending.returned (Value.bool b_)) HE_.out, uB0 HB⟩
 ·
  rw [if_neg c2] at H; have c2b0 := DL c2; have c2b1 : decide (1048576 < l0.length) = false := decide_eq_false (by omega); clear c2; replace H := Option.bind_eq_some_iff.mp H; obtain ⟨⟨t101, t102, t105⟩, A30, H⟩ := H; replace H : ((impl_MarkPick.f k t101 t102 t105).bind fun t107 => ((spec_MarkPick.f k t101 t102 t105).bind fun t110 => ((laws_wkInts.f k t107 t110).bind fun t113 => (if t113 = true then ((impl_NetOk.f t101 t102).bind fun t114 => (if t114 = true then (laws_FnMarkPick.j0 k t105 t107 (decide (t105 > t101)) t101 t102) else (laws_FnMarkPick.j0 k t105 t107 true t101 t102))) else (laws_FnMarkPick.j0 k t105 t107 true t101 t102))))) = some true := H; have A3 := Aside0.mk A30; clear A30; replace H := Option.bind_eq_some_iff.mp H; obtain ⟨t107, A40, H⟩ := H; replace H : ((spec_MarkPick.f k t101 t102 t105).bind fun t110 => ((laws_wkInts.f k t107 t110).bind fun t113 => (if t113 = true then ((impl_NetOk.f t101 t102).bind fun t114 => (if t114 = true then (laws_FnMarkPick.j0 k t105 t107 (decide (t105 > t101)) t101 t102) else (laws_FnMarkPick.j0 k t105 t107 true t101 t102))) else (laws_FnMarkPick.j0 k t105 t107 true t101 t102)))) = some true := H; have A4 := Aside0.mk A40; clear A40; have HC5 := Aside0.mk H; clear H; go_enter Try.func9, Try.ntmps9; go_upto_region 5 with (first | ((with_reducible refine gate_callee (f := 39) rfl ?_); refine goesL_ (some 12) rfl rfl Try.func39 (by kernel_rfl) rfl #[.slice A0 l0.length c0] rfl ul ?_; (with_reducible refine (spec_DrawMarkPick.calls k _ _ l0 t101 t102 t105 _ ?side1 ?side2 A3.out).mono ?_); (case side1 => repeat (first | exact HR0.out | (with_reducible refine Kd.C_alloc ?_ _) | (with_reducible refine Kd.C_drewN ?_ _) | (with_reducible refine Kd.C_drew ?_))); (case side2 => exact HC0.out); rintro e w6 ⟨v103, rfl, ho0, hb⟩; refine ⟨_, rfl, ?_⟩; have HO104 := Aside0.mk (Kd.R_lower ho0 (below_size (uB0 HB))); replace HB := Aside0.mk (below_step (uB0 HB) hb); (try clear hb); (try clear hb2); (try clear hk); (try clear hi); (try clear ho0)) | ((with_reducible refine gate_dst (N := 3) rfl ?_); refine be (cs := #[.int .i64 0, .slice none 0 0]) (t := 25) ?_; intro gb106 hg w7 hbox hb; replace HO104 := Aside0.mk (Kd.R_below (ur HO104) hb); have BK106 := Aside0.mk (hbox); have GW106 := gz w hg (uB0 HB); have GE106 := gz w hg (uB0 HB); replace HB := Aside0.mk (below_step (uB0 HB) hb); clear hb hbox hg; obtain ⟨hcz8_0, hcz8_1, hfz8_0, hfz8_1⟩ := bc2 BK106; obtain ⟨Ao9, co9, eo9⟩ := Kd.R_slice HO104.out; subst eo9) | ((with_reducible refine gate_callee (f := 40) rfl ?_); refine goesL_ (some 17) rfl rfl Try.func40 (by kernel_rfl) rfl #[.agg #[.int .i64 t101, .slice Ao9 t102.length co9], .int .i64 t105] rfl ul ?_; (with_reducible refine (impl_MarkPick.calls k t101 _ _ t102 t105 t107 _ ?side1 ?side2 A4.out).mono ?_); (case side1 => refine (Kd.R_reads' (e := 33) (base := w.heap.size) (ok := fun k_ => True) (n := t102.length) (c := co9) ?_).2.2; exact (by (with_reducible repeat (first | apply Kd.R_alloc | apply Kd.R_drewN | apply Kd.R_drew)); exact (Kd.R_mono (rf2 HO104 BK106) (fun _ h_ => h_.1)))); (case side2 => exact (Kd.R_reads' HO104.out).2.1); rintro e w10 ⟨v108, rfl, ho0, hb⟩; refine ⟨_, rfl, ?_⟩; replace HO104 := Aside0.mk (Kd.R_below (by (with_reducible repeat (first | apply Kd.R_alloc | apply Kd.R_drewN | apply Kd.R_drew)); exact (Kd.R_mono (rf2 HO104 BK106) (fun _ h_ => h_.1))) hb); have HO109 := Aside0.mk (Kd.R_lower ho0 (below_size (uB1 HB GE106.out))); replace BK106 := Aside0.mk (blk_below (g := gb106) (o := .cells #[.int .i64 t101, .slice Ao9 t102.length co9] 25 (0, 0)) (by (with_reducible repeat first | apply zbn | apply zbd | apply zba); refine pu2 (.int .i64 0) (.slice none 0 0) ?_; exact ub BK106) hb); replace HB := Aside0.mk (below_step (uB1 HB GE106.out) hb); (try clear hb); (try clear hb2); (try clear hk); (try clear hi); (try clear ho0)))
  (try simp only [Act.put, List.setIfInBounds_toArray, List.set_cons_zero, List.set_cons_succ]); go_cut [34] (fun v34 wc => ∃ (kq : Nat) (x34_4 : Bool), v34 = .bool x34_4 ∧ Aside0 (laws_FnMarkPick.j0 kq t105 t107 x34_4 t101 t102 = some true) ∧ Aside0 (kq ≤ k) ∧ Aside0 (Kd.R (Kd.int .i64) 3 wc w.heap.size (fun _ => True) v108 t107) ∧ Aside0 (Kd.R k33 33 wc w.heap.size (fun _ => True) (.slice Ao9 t102.length co9) t102) ∧ Aside0 (wc.heap[gb106]? = some (.cells #[.int .i64 t101, (.slice Ao9 t102.length co9)] 25 (0, 0))) ∧ Aside0 (Below w.heap.size w wc))
  case first =>
   have H := HC5.out; clear HC5; replace H := Option.bind_eq_some_iff.mp H; obtain ⟨t110, A110, H⟩ := H; replace H : ((laws_wkInts.f k t107 t110).bind fun t113 => (if t113 = true then ((impl_NetOk.f t101 t102).bind fun t114 => (if t114 = true then (laws_FnMarkPick.j0 k t105 t107 (decide (t105 > t101)) t101 t102) else (laws_FnMarkPick.j0 k t105 t107 true t101 t102))) else (laws_FnMarkPick.j0 k t105 t107 true t101 t102))) = some true := H; have A11 := Aside0.mk A110; clear A110; replace H := Option.bind_eq_some_iff.mp H; obtain ⟨t113, A120, H⟩ := H; replace H : (if t113 = true then ((impl_NetOk.f t101 t102).bind fun t114 => (if t114 = true then (laws_FnMarkPick.j0 k t105 t107 (decide (t105 > t101)) t101 t102) else (laws_FnMarkPick.j0 k t105 t107 true t101 t102))) else (laws_FnMarkPick.j0 k t105 t107 true t101 t102)) = some true := H; have A12 := Aside0.mk A120; clear A120; by_cases c13 : t113 = true
   ·
    subst c13; rw [if_pos rfl] at H; replace H := Option.bind_eq_some_iff.mp H; obtain ⟨t114, A140, H⟩ := H; replace H : (if t114 = true then (laws_FnMarkPick.j0 k t105 t107 (decide (t105 > t101)) t101 t102) else (laws_FnMarkPick.j0 k t105 t107 true t101 t102)) = some true := H; have A14 := Aside0.mk A140; clear A140; by_cases c15 : t114 = true
    ·
     subst c15; rw [if_pos rfl] at H; have H' := Aside0.mk H; clear H; obtain ⟨hcz16_0, hcz16_1, hfz16_0, hfz16_1⟩ := bc2 BK106; go_wp2_with (first | ((with_reducible refine gate_callee (f := 41) rfl ?_); refine goesL_ (some 21) rfl rfl Try.func41 (by kernel_rfl) rfl #[.agg #[.int .i64 t101, .slice Ao9 t102.length co9], .int .i64 t105] rfl ul ?_; (with_reducible refine (spec_MarkPick.calls k t101 _ _ t102 t105 t110 _ ?side1 ?side2 A11.out).mono ?_); (case side1 => exact uD (Kd.R_reads' HO104.out).2.2); (case side2 => exact (Kd.R_reads' HO104.out).2.1); rintro e w17 ⟨v111, rfl, ho0, hb⟩; refine ⟨_, rfl, ?_⟩; replace HO104 := Aside0.mk (Kd.R_below (ur HO104) hb); have HO112 := Aside0.mk (Kd.R_lower (Kd.R_new' ho0 (Kd.R_lt (ur HO109))) (below_size (uB1 HB GE106.out))); replace HO109 := Aside0.mk (Kd.R_elder' (ur HO109) (Kd.R_base ho0) hb); replace BK106 := bb BK106 hb; replace HB := Aside0.mk (below_step (uB1 HB GE106.out) hb); (try clear hb); (try clear hb2); (try clear hk); (try clear hi); (try clear ho0); obtain ⟨Ao18, co18, eo18⟩ := Kd.R_slice HO109.out; subst eo18; obtain ⟨Ao19, co19, eo19⟩ := Kd.R_slice HO112.out; subst eo19) | ((with_reducible refine gate_callee (f := 36) rfl ?_); refine goesL_ (some 22) rfl rfl Try.func36 (by kernel_rfl) rfl #[.slice Ao18 t107.length co18, .slice Ao19 t110.length co19] rfl ul ?_; (with_reducible refine (laws_wkInts.calls k _ _ t107 _ _ t110 true _ ?side1 ?side2 ?side3 ?side4 A12.out).mono ?_); (case side1 => exact uD (Kd.R_reads' HO109.out).2.2); (case side2 => exact (Kd.R_reads' HO109.out).2.1); (case side3 => exact uD (Kd.R_reads' HO112.out).2.2); (case side4 => exact (Kd.R_reads' HO112.out).2.1); rintro e w' ⟨rfl, ⟨nd, rfl⟩⟩; refine ⟨_, rfl, ?_⟩; obtain ⟨hcz20_0, hcz20_1, hfz20_0, hfz20_1⟩ := bc2 BK106) | (go_at_call 20; (with_reducible refine (impl_NetOk.calls t101 _ _ t102 true _ ?side1 ?side2 A14.out).mono ?_); (case side1 => exact uD (Kd.R_reads' HO104.out).2.2); (case side2 => exact (Kd.R_reads' HO104.out).2.1); rintro e w21 ⟨rfl, hb⟩; replace HO104 := Aside0.mk (Kd.R_below (ur HO104) hb); replace HO109 := Aside0.mk (Kd.R_below (ur HO109) hb); replace HO112 := Aside0.mk (Kd.R_below (ur HO112) hb); replace BK106 := bb BK106 hb; replace HB := Aside0.mk (below_step (uB1 HB GE106.out) hb); (try clear hb); (try clear hb2); (try clear hk); (try clear hi); obtain ⟨hcz22_0, hcz22_1, hfz22_0, hfz22_1⟩ := bc2 BK106)); go_meet
     case rel => exact ⟨_, (decide (t105 > t101)), ue, H', ⟨by first | omega | exact Nat.le_refl _⟩, ⟨by (with_reducible repeat (first | apply Kd.R_alloc | apply Kd.R_drewN | apply Kd.R_drew)); exact Kd.R_mono HO109.out (fun _ hk => trivial)⟩, ⟨ur HO104⟩, ⟨ub BK106⟩, ⟨uB1 HB GE106.out⟩⟩
    ·
     replace c15 := Bool.eq_false_iff.mpr c15; subst c15; rw [if_neg (show ¬ (false = true) by decide)] at H; have H' := Aside0.mk H; clear H; obtain ⟨hcz23_0, hcz23_1, hfz23_0, hfz23_1⟩ := bc2 BK106; go_wp2_with (first | ((with_reducible refine gate_callee (f := 41) rfl ?_); refine goesL_ (some 21) rfl rfl Try.func41 (by kernel_rfl) rfl #[.agg #[.int .i64 t101, .slice Ao9 t102.length co9], .int .i64 t105] rfl ul ?_; (with_reducible refine (spec_MarkPick.calls k t101 _ _ t102 t105 t110 _ ?side1 ?side2 A11.out).mono ?_); (case side1 => exact uD (Kd.R_reads' HO104.out).2.2); (case side2 => exact (Kd.R_reads' HO104.out).2.1); rintro e w24 ⟨v111, rfl, ho0, hb⟩; refine ⟨_, rfl, ?_⟩; replace HO104 := Aside0.mk (Kd.R_below (ur HO104) hb); have HO112 := Aside0.mk (Kd.R_lower (Kd.R_new' ho0 (Kd.R_lt (ur HO109))) (below_size (uB1 HB GE106.out))); replace HO109 := Aside0.mk (Kd.R_elder' (ur HO109) (Kd.R_base ho0) hb); replace BK106 := bb BK106 hb; replace HB := Aside0.mk (below_step (uB1 HB GE106.out) hb); (try clear hb); (try clear hb2); (try clear hk); (try clear hi); (try clear ho0); obtain ⟨Ao25, co25, eo25⟩ := Kd.R_slice HO109.out; subst eo25; obtain ⟨Ao26, co26, eo26⟩ := Kd.R_slice HO112.out; subst eo26) | ((with_reducible refine gate_callee (f := 36) rfl ?_); refine goesL_ (some 22) rfl rfl Try.func36 (by kernel_rfl) rfl #[.slice Ao25 t107.length co25, .slice Ao26 t110.length co26] rfl ul ?_; (with_reducible refine (laws_wkInts.calls k _ _ t107 _ _ t110 true _ ?side1 ?side2 ?side3 ?side4 A12.out).mono ?_); (case side1 => exact uD (Kd.R_reads' HO109.out).2.2); (case side2 => exact (Kd.R_reads' HO109.out).2.1); (case side3 => exact uD (Kd.R_reads' HO112.out).2.2); (case side4 => exact (Kd.R_reads' HO112.out).2.1); rintro e w' ⟨rfl, ⟨nd, rfl⟩⟩; refine ⟨_, rfl, ?_⟩; obtain ⟨hcz27_0, hcz27_1, hfz27_0, hfz27_1⟩ := bc2 BK106) | (go_at_call 20; (with_reducible refine (impl_NetOk.calls t101 _ _ t102 false _ ?side1 ?side2 A14.out).mono ?_); (case side1 => exact uD (Kd.R_reads' HO104.out).2.2); (case side2 => exact (Kd.R_reads' HO104.out).2.1); rintro e w28 ⟨rfl, hb⟩; replace HO104 := Aside0.mk (Kd.R_below (ur HO104) hb); replace HO109 := Aside0.mk (Kd.R_below (ur HO109) hb); replace HO112 := Aside0.mk (Kd.R_below (ur HO112) hb); replace BK106 := bb BK106 hb; replace HB := Aside0.mk (below_step (uB1 HB GE106.out) hb); (try clear hb); (try clear hb2); (try clear hk); (try clear hi))); go_meet
     case rel => exact ⟨_, (true), ue, H', ⟨by first | omega | exact Nat.le_refl _⟩, ⟨by (with_reducible repeat (first | apply Kd.R_alloc | apply Kd.R_drewN | apply Kd.R_drew)); exact Kd.R_mono HO109.out (fun _ hk => trivial)⟩, ⟨ur HO104⟩, ⟨ub BK106⟩, ⟨uB1 HB GE106.out⟩⟩
   ·
    replace c13 := Bool.eq_false_iff.mpr c13; subst c13; rw [if_neg (show ¬ (false = true) by decide)] at H; have H' := Aside0.mk H; clear H; obtain ⟨hcz29_0, hcz29_1, hfz29_0, hfz29_1⟩ := bc2 BK106; go_wp2_with (first | ((with_reducible refine gate_callee (f := 41) rfl ?_); refine goesL_ (some 21) rfl rfl Try.func41 (by kernel_rfl) rfl #[.agg #[.int .i64 t101, .slice Ao9 t102.length co9], .int .i64 t105] rfl ul ?_; (with_reducible refine (spec_MarkPick.calls k t101 _ _ t102 t105 t110 _ ?side1 ?side2 A11.out).mono ?_); (case side1 => exact uD (Kd.R_reads' HO104.out).2.2); (case side2 => exact (Kd.R_reads' HO104.out).2.1); rintro e w30 ⟨v111, rfl, ho0, hb⟩; refine ⟨_, rfl, ?_⟩; replace HO104 := Aside0.mk (Kd.R_below (ur HO104) hb); have HO112 := Aside0.mk (Kd.R_lower (Kd.R_new' ho0 (Kd.R_lt (ur HO109))) (below_size (uB1 HB GE106.out))); replace HO109 := Aside0.mk (Kd.R_elder' (ur HO109) (Kd.R_base ho0) hb); replace BK106 := bb BK106 hb; replace HB := Aside0.mk (below_step (uB1 HB GE106.out) hb); (try clear hb); (try clear hb2); (try clear hk); (try clear hi); (try clear ho0); obtain ⟨Ao31, co31, eo31⟩ := Kd.R_slice HO109.out; subst eo31; obtain ⟨Ao32, co32, eo32⟩ := Kd.R_slice HO112.out; subst eo32) | ((with_reducible refine gate_callee (f := 36) rfl ?_); refine goesL_ (some 22) rfl rfl Try.func36 (by kernel_rfl) rfl #[.slice Ao31 t107.length co31, .slice Ao32 t110.length co32] rfl ul ?_; (with_reducible refine (laws_wkInts.calls k _ _ t107 _ _ t110 false _ ?side1 ?side2 ?side3 ?side4 A12.out).mono ?_); (case side1 => exact uD (Kd.R_reads' HO109.out).2.2); (case side2 => exact (Kd.R_reads' HO109.out).2.1); (case side3 => exact uD (Kd.R_reads' HO112.out).2.2); (case side4 => exact (Kd.R_reads' HO112.out).2.1); rintro e w' ⟨rfl, ⟨nd, rfl⟩⟩; refine ⟨_, rfl, ?_⟩)); go_meet
    case rel => exact ⟨_, (true), ue, H', ⟨by first | omega | exact Nat.le_refl _⟩, ⟨by (with_reducible repeat (first | apply Kd.R_alloc | apply Kd.R_drewN | apply Kd.R_drew)); exact Kd.R_mono HO109.out (fun _ hk => trivial)⟩, ⟨ur HO104⟩, ⟨ub BK106⟩, ⟨uB1 HB GE106.out⟩⟩
  case rest =>
   clear HC5; try clear c1
   try clear c2
   try clear c2b0
   try clear c2b1
   try clear p2
   try clear c3
   try clear c4
   try clear c9
   try clear c13
   try clear c15
   try clear hcz16_0 hcz16_1
   try clear hcz20_0 hcz20_1
   try clear hcz22_0 hcz22_1
   try clear hcz23_0 hcz23_1
   try clear hcz27_0 hcz27_1
   try clear hcz29_0 hcz29_1
   try clear hcz8_0 hcz8_1
   try clear hfz16_0 hfz16_1
   try clear hfz20_0 hfz20_1
   try clear hfz22_0 hfz22_1
   try clear hfz23_0 hfz23_1
   try clear hfz27_0 hfz27_1
   try clear hfz29_0 hfz29_1
   try clear hfz8_0 hfz8_1
   obtain ⟨kq, x34_4, rfl, HA, HJ4, HO_5, HO_107001, BK106, HB⟩ := hcut
   cases kq with
   | zero => exact absurd HA.out (by simp [laws_FnMarkPick.j0])
   | succ kj4 =>
    have H := HA.out; clear HA; simp only [laws_FnMarkPick.j0] at H; by_cases c33 : x34_4 = true
    ·
     subst c33; rw [if_pos rfl] at H; replace H := Option.bind_eq_some_iff.mp H; obtain ⟨t115, A340, H⟩ := H; replace H : ((laws_wkInts.f kj4 t107 t115).bind fun t118 => (some t118)) = some true := H; have A34 := Aside0.mk A340; clear A340; replace H := Option.bind_eq_some_iff.mp H; obtain ⟨t118, A350, H⟩ := H; replace H : (some t118) = some true := H; have A35 := Aside0.mk A350; clear A350; have HE_ := Aside0.mk (Option.some.inj H); clear H; obtain ⟨hcz36_0, hcz36_1, hfz36_0, hfz36_1⟩ := bc2 BK106; go_wp2_with (first | ((with_reducible refine gate_callee (f := 41) rfl ?_); refine goesL_ (some 38) rfl rfl Try.func41 (by kernel_rfl) rfl #[.agg #[.int .i64 t101, .slice Ao9 t102.length co9], .int .i64 t105] rfl ul ?_; (with_reducible refine (spec_MarkPick.calls kj4 t101 _ _ t102 t105 t115 _ ?side1 ?side2 A34.out).mono ?_); (case side1 => exact uD (Kd.R_reads' HO_107001.out).2.2); (case side2 => exact (Kd.R_reads' HO_107001.out).2.1); rintro e w37 ⟨v116, rfl, ho0, hb⟩; refine ⟨_, rfl, ?_⟩; replace HO_107001 := Aside0.mk (Kd.R_below (ur HO_107001) hb); have HO117 := Aside0.mk (Kd.R_lower (Kd.R_new' ho0 (Kd.R_lt (ur HO_5))) (below_size (uB1 HB GE106.out))); replace HO_5 := Aside0.mk (Kd.R_elder' (ur HO_5) (Kd.R_base ho0) hb); replace BK106 := bb BK106 hb; replace HB := Aside0.mk (below_step (uB1 HB GE106.out) hb); (try clear hb); (try clear hb2); (try clear hk); (try clear hi); (try clear ho0); obtain ⟨Ao38, co38, eo38⟩ := Kd.R_slice HO_5.out; subst eo38; obtain ⟨Ao39, co39, eo39⟩ := Kd.R_slice HO117.out; subst eo39) | ((with_reducible refine gate_callee (f := 36) rfl ?_); refine goesL_ (some 39) rfl rfl Try.func36 (by kernel_rfl) rfl #[.slice Ao38 t107.length co38, .slice Ao39 t115.length co39] rfl ul ?_; (with_reducible refine (laws_wkInts.calls kj4 _ _ t107 _ _ t115 t118 _ ?side1 ?side2 ?side3 ?side4 A35.out).mono ?_); (case side1 => exact uD (Kd.R_reads' HO_5.out).2.2); (case side2 => exact (Kd.R_reads' HO_5.out).2.1); (case side3 => exact uD (Kd.R_reads' HO117.out).2.2); (case side4 => exact (Kd.R_reads' HO117.out).2.1); rintro e w' ⟨rfl, ⟨nd, rfl⟩⟩; refine ⟨_, rfl, ?_⟩)); go_ret; exact ⟨by first | rfl | (simp [errW_none, errW_some] <;> rfl) | (simp [*, errW_none, errW_some] <;> rfl) | exact congrArg (fun b_ => Ending.returned (Value.bool b_)) HE_.out, uB1 HB GE106.out⟩
    ·
     replace c33 := Bool.eq_false_iff.mpr c33; subst c33; rw [if_neg (show ¬ (false = true) by decide)] at H; have H' := Aside0.mk H; clear H; go_wp2; go_loopg [6] kj4 (fun kq v6 w' => ∃ (x6_2 : Int), v6 = .int .i64 x6_2 ∧ Aside0 (laws_FnMarkPick.l0 kq t105 t107 x6_2 t101 t102 = some true) ∧ Aside0 (kq ≤ kj4) ∧ Aside0 (Kd.R (Kd.int .i64) 3 w' w.heap.size (fun _ => True) v108 t107) ∧ Aside0 (Kd.R k33 33 w' w.heap.size (fun _ => True) (.slice Ao9 t102.length co9) t102) ∧ Aside0 (w'.heap[gb106]? = some (.cells #[.int .i64 t101, (.slice Ao9 t102.length co9)] 25 (0, 0))) ∧ Aside0 (Below w.heap.size w w'))
     case atStart => exact ⟨(0), ue, H', ⟨Nat.le_refl _⟩, ⟨ur HO_5⟩, ⟨ur HO_107001⟩, ⟨ub BK106⟩, ⟨uB1 HB GE106.out⟩⟩
     case round =>
      clear H'; try clear c1
      try clear c2
      try clear c2b0
      try clear c2b1
      try clear p2
      try clear c3
      try clear c4
      try clear c9
      try clear c13
      try clear c15
      try clear c33
      try clear c36
      try clear c39
      try clear hcz16_0 hcz16_1
      try clear hcz20_0 hcz20_1
      try clear hcz22_0 hcz22_1
      try clear hcz23_0 hcz23_1
      try clear hcz27_0 hcz27_1
      try clear hcz29_0 hcz29_1
      try clear hcz36_0 hcz36_1
      try clear hcz8_0 hcz8_1
      try clear hfz16_0 hfz16_1
      try clear hfz20_0 hfz20_1
      try clear hfz22_0 hfz22_1
      try clear hfz23_0 hfz23_1
      try clear hfz27_0 hfz27_1
      try clear hfz29_0 hfz29_1
      try clear hfz36_0 hfz36_1
      try clear hfz8_0 hfz8_1
      try clear p2
      obtain ⟨x6_2, rfl, HA, HK2, HO_5, HO_107001, BK106, HB⟩ := hrel
      cases gk with
      | zero => exact absurd HA.out (by simp [laws_FnMarkPick.l0])
      | succ k2 =>
       have H := HA.out; clear HA; simp only [laws_FnMarkPick.l0] at H; by_cases c40 : x6_2 < (t107.length : Int)
       ·
        rw [if_pos c40] at H; have c40b0 := dl c40; clear c40; by_cases c41 : 0 ≤ x6_2
        ·
         rw [if_pos c41] at H; have c41b0 := eq_true c41; have c41b1 := de c41; clear c41; by_cases c42 : x6_2 ≤ (t107.length : Int)
         ·
          rw [if_pos c42] at H; have c42b0 := eq_true c42; have c42b1 := de c42; clear c42; obtain ⟨y119, hy119⟩ : ∃ y_ : List Int, y_ = (t107.take (x6_2 : Int).toNat) := ⟨_, rfl⟩
          replace H : ((laws_wkIn.f k2 y119 (rd t107 x6_2)).bind fun t124 => (if t124 = true then (some false) else (if (rd t107 x6_2) < 0 then (some false) else (if (rd t107 x6_2) ≥ t101 then (some false) else (laws_FnMarkPick.l0 k2 t105 t107 (wrap64 (x6_2 + 1)) t101 t102))))) = some true := by first | (rw [hy119]; with_reducible exact H) | (have H2_ := (Option.bind_some _ _).symm.trans H; rw [hy119]; with_reducible exact H2_) | (have H2_ := (Option.bind_some _ _).symm.trans H; with_reducible exact H2_) | with_reducible exact H | (rw [hy119]; exact H) | exact H
          have Ny119 := Aside0.mk hy119; clear hy119; replace H := Option.bind_eq_some_iff.mp H; obtain ⟨t124, A430, H⟩ := H; replace H : (if t124 = true then (some false) else (if (rd t107 x6_2) < 0 then (some false) else (if (rd t107 x6_2) ≥ t101 then (some false) else (laws_FnMarkPick.l0 k2 t105 t107 (wrap64 (x6_2 + 1)) t101 t102)))) = some true := H; have A43 := Aside0.mk A430; clear A430; by_cases c44 : t124 = true
          ·
           subst c44; rw [if_pos rfl] at H; exact absurd H (by simp)
          ·
           replace c44 := Bool.eq_false_iff.mpr c44; subst c44; rw [if_neg (show ¬ (false = true) by decide)] at H; by_cases c45 : (rd t107 x6_2) < 0
           ·
            rw [if_pos c45] at H; have c45b0 := dl c45; clear c45; exact absurd H (by simp)
           ·
            rw [if_neg c45] at H; have c45b0 := DL c45; clear c45; by_cases c46 : (rd t107 x6_2) ≥ t101
            ·
             rw [if_pos c46] at H; have c46b0 := de c46; clear c46; exact absurd H (by simp)
            ·
             rw [if_neg c46] at H; have c46b0 := DE c46; clear c46; have H' := Aside0.mk H; clear H; obtain ⟨Ao47, co47, eo47⟩ := Kd.R_slice HO_5.out; subst eo47; try go_wp2
             replace HO_5 := Aside0.mk (Kd.R_drew HO_5.out); replace HO_107001 := Aside0.mk (Kd.R_drew HO_107001.out); replace BK106 := Aside0.mk (blk_drew BK106.out); replace HB := Aside0.mk (below_drew1 HB.out); have q49 : (x6_2 : Int) ≤ ((t107.length : Int) : Int) := ua; obtain ⟨i049, hi049, _, hsz49, _⟩ := info_parts info3; have hroom49 : t107.length ≤ co47 := (Kd.R_reads' HO_5.out).2.1; have hC49 : Kd.C (Kd.int .i64) _ Ao47 t107.length t107 := (Kd.R_reads' HO_5.out).2.2; have hcut49 := cut_to (P := Try.prog) 26 3 .i64 Try.underlying26 hi049 Ao47 t107.length co47 x6_2 (ua) q49 hroom49; have hr49 := Kd.C_take (m := (x6_2 : Int).toNat) hC49 (by omega); have hy49 : y119.length = (x6_2 : Int).toNat := (by rw [Ny119.out, List.length_take]; omega)
             rw [← Ny119.out] at hr49; rw [← hy49] at hcut49; have HR122 := Aside0.mk hr49; have HC122 := Aside0.mk (show y119.length ≤ co47 from by omega); clear hr49 hC49 hroom49 hi049 hsz49; have KY49 := Aside0.mk hy49; clear hy49; have KL49 := Aside0.mk (show (x6_2 : Int).toNat ≤ t107.length from by omega); replace q49 := eq_true q49; have p123 : 0 ≤ (x6_2 : Int) := ua; have q123 : x6_2 < (t107.length : Int) := ua; obtain ⟨ad123, e123, hx123_0⟩ := Kd.at_int (Kd.R_reads' HO_5.out).2.2 x6_2 p123 q123
             cases e123
             replace p123 := eq_true p123; replace q123 := eq_true q123; have p125 : 0 ≤ (x6_2 : Int) := ua; have q125 : x6_2 < (t107.length : Int) := ua; obtain ⟨ad125, e125, hx125_0⟩ := Kd.at_int (Kd.R_reads' HO_5.out).2.2 x6_2 p125 q125; obtain rfl : ad123 = ad125 := (by injection e125)
             replace p125 := eq_true p125; replace q125 := eq_true q125; have p126 : 0 ≤ (x6_2 : Int) := ua; have q126 : x6_2 < (t107.length : Int) := ua; obtain ⟨ad126, e126, hx126_0⟩ := Kd.at_int (Kd.R_reads' HO_5.out).2.2 x6_2 p126 q126; obtain rfl : ad123 = ad126 := (by injection e126)
             replace p126 := eq_true p126; replace q126 := eq_true q126; refine start_ (n := 24) (S := fun w' => w'.cell? ⟨gb106, 0, none⟩ = some (.int .i64 t101) ∧ w'.cell? ⟨gb106, 1, none⟩ = some (.slice Ao9 t102.length co9) ∧ w'.cell? (ad123.add (x6_2).toNat) = some (.int .i64 (rd t107 x6_2)) ∧ w'.cell? (ad123.add (x6_2).toNat) = some (.int .i64 (rd t107 x6_2)) ∧ w'.cell? (ad123.add (x6_2).toNat) = some (.int .i64 (rd t107 x6_2))) (ds := []) (zt 24 0) (by kernel_rfl) rfl (by kernel_rfl) (b2x BK106 ⟨hx123_0, hx125_0, hx126_0⟩) (fun hHeld => ?_); refine with_tabW laws_FnMarkPick.tab10 laws_FnMarkPick.bits10 (fun HT_ HW_ => ?_); generalize wr.drew = w48 at HO_5 HO_107001 BK106 HB HR122 hx123_0 hx125_0 hx126_0 hHeld ⊢; refine qz HT_ 0 ?_; refine qz HT_ 1 ?_; refine qz HT_ 2 ?_; refine qz HT_ 3 ?_; refine qz HT_ 4 ?_; refine qz HT_ 5 ?_; refine qt HT_ HW_ hHeld 6 ?_; refine qo HT_ 7 (fun K hK => ?_); refine goes_ Try.func37 (by kernel_rfl) rfl #[.slice (some ad123) y119.length co47, .int .i64 (rd t107 x6_2)] (by rfl) rfl rfl ul ?_; with_reducible refine (laws_wkIn.calls k2 _ _ y119 (rd t107 x6_2) false _ ?side1 ?side2 A43.out).mono ?_
             (case side1 => repeat (first | exact (by repeat (first | (with_reducible exact HR122.out) | (with_reducible refine Kd.C_alloc ?_ _) | (with_reducible refine Kd.C_drewN ?_ _) | (with_reducible refine Kd.C_drew ?_) | exact HR122.out)) | (with_reducible refine Kd.C_alloc ?_ _) | (with_reducible refine Kd.C_drewN ?_ _) | (with_reducible refine Kd.C_drew ?_))); (case side2 => exact HC122.out); rintro e w' ⟨rfl, ⟨nd, rfl⟩⟩; refine ⟨_, rfl, ?_⟩; refine hK.out _ _ (b2x BK106 ⟨hHeld.2.2.1, hHeld.2.2.2.1, hHeld.2.2.2.2⟩) (fun hHeld => ?_); clear hK K; refine nz ?_
             refine qz HT_ 8 ?_; refine qz HT_ 9 ?_; refine qz HT_ 10 ?_; refine qz HT_ 11 ?_; refine qt HT_ HW_ hHeld 12 ?_; refine qz HT_ 13 ?_; refine qz HT_ 14 ?_; refine qz HT_ 15 ?_; refine qz HT_ 16 ?_; refine qz HT_ 17 ?_; refine qz HT_ 18 ?_; refine qz HT_ 20 ?_; refine qt HT_ HW_ hHeld 19 ?_; refine qt HT_ HW_ hHeld 21 ?_; refine qz HT_ 22 ?_; refine qz HT_ 23 ?_; refine done_ (done_of HT_.out (by kernel_rfl)) ?_; try go_wp2
             go_roundg k2
             case measure => have := HJ4.out; have := HK2.out; omega
             case rel => exact ⟨(wrap64 (x6_2 + 1)), ue, H', ⟨by have := HJ4.out; have := HK2.out; omega⟩, ⟨ur HO_5⟩, ⟨ur HO_107001⟩, ⟨ub BK106⟩, ⟨uB1 HB GE106.out⟩⟩
         ·
          rw [if_neg c42] at H; exact absurd H (by simp)
        ·
         rw [if_neg c41] at H; exact absurd H (by simp)
       ·
        rw [if_neg c40] at H; have c40b0 := DL c40; clear c40; by_cases c50 : (t107.length : Int) = t105
        ·
         rw [if_pos c50] at H; obtain ⟨c50b0, c50b1⟩ := dq c50; clear c50; by_cases c51 : t105 = 0
         ·
          rw [if_pos c51] at H; obtain ⟨c51b0, c51b1⟩ := dq c51; clear c51; clear H; obtain ⟨Ao52, co52, eo52⟩ := Kd.R_slice HO_5.out; subst eo52; try go_wp2
          replace HO_5 := Aside0.mk (Kd.R_drew HO_5.out); replace HO_107001 := Aside0.mk (Kd.R_drew HO_107001.out); replace BK106 := Aside0.mk (blk_drew BK106.out); replace HB := Aside0.mk (below_drew1 HB.out); refine start_ (n := 20) (S := fun w' => True) (ds := []) (zt 20 0) (by kernel_rfl) rfl (by kernel_rfl) trivial (fun hHeld => ?_); refine with_tabW laws_FnMarkPick.tab12 laws_FnMarkPick.bits12 (fun HT_ HW_ => ?_); generalize wr.drew = w53 at HO_5 HO_107001 BK106 HB hHeld ⊢; refine qz HT_ 0 ?_; refine qz HT_ 1 ?_; refine qz HT_ 2 ?_; refine qz HT_ 3 ?_; refine qz HT_ 4 ?_; refine qz HT_ 5 ?_; refine qz HT_ 6 ?_; refine qz HT_ 7 ?_; refine qn HT_ 8 ?_; refine qn HT_ 9 ?_; refine qn HT_ 10 ?_; refine qn HT_ 11 ?_; refine qn HT_ 12 ?_; refine qn HT_ 13 ?_; refine qn HT_ 14 ?_; refine qn HT_ 15 ?_; refine qn HT_ 16 ?_; refine qz HT_ 17 ?_; refine qz HT_ 18 ?_; refine qz HT_ 19 ?_; refine done_ (done_of HT_.out (by kernel_rfl)) ?_; try go_wp2
          go_ret; exact ⟨by first | rfl | (simp [errW_none, errW_some] <;> rfl) | (simp [*, errW_none, errW_some] <;> rfl) | exact congrArg (fun b_ => Ending.returned (Value.bool b_)) HE_.out, uB1 HB GE106.out⟩
         ·
          rw [if_neg c51] at H; obtain ⟨c51b0, c51b1⟩ := dQ c51; replace H := Option.bind_eq_some_iff.mp H; obtain ⟨t127, A540, H⟩ := H; replace H : (if 0 ≤ (wrap64 (t105 - 1)) then (if (wrap64 (t105 - 1)) ≤ (t107.length : Int) then ((laws_wkInts.f k2 t127 (t107.take ((wrap64 (t105 - 1)) : Int).toNat)).bind fun t134 => (some t134)) else (none)) else (none)) = some true := H; have A54 := Aside0.mk A540; clear A540; obtain ⟨ji55, hji55⟩ : ∃ j_ : Int, (wrap64 (t105 - 1)) = j_ := ⟨_, rfl⟩
          replace H : (if 0 ≤ (ji55) then (if (ji55) ≤ (t107.length : Int) then ((laws_wkInts.f k2 t127 (t107.take ((ji55) : Int).toNat)).bind fun t134 => (some t134)) else (none)) else (none)) = some true := by first | (rw [hji55] at H; exact H) | (simp only [hji55] at H ⊢; exact H)
          (try rw [hji55] at A54); have hji55w : (IntKind.i64.wrap (t105 - 1)) = ji55 := (i64_w _).trans hji55; by_cases c56 : 0 ≤ (ji55)
          ·
           rw [if_pos c56] at H; have c56b0 := eq_true c56; have c56b1 := de c56; clear c56; by_cases c57 : (ji55) ≤ (t107.length : Int)
           ·
            rw [if_pos c57] at H; have c57b0 := eq_true c57; have c57b1 := de c57; clear c57; obtain ⟨y130, hy130⟩ : ∃ y_ : List Int, y_ = (t107.take ((ji55) : Int).toNat) := ⟨_, rfl⟩
            replace H : ((laws_wkInts.f k2 t127 y130).bind fun t134 => (some t134)) = some true := by first | (rw [hy130]; with_reducible exact H) | (have H2_ := (Option.bind_some _ _).symm.trans H; rw [hy130]; with_reducible exact H2_) | (have H2_ := (Option.bind_some _ _).symm.trans H; with_reducible exact H2_) | with_reducible exact H | (rw [hy130]; exact H) | exact H
            have Ny130 := Aside0.mk hy130; clear hy130; replace H := Option.bind_eq_some_iff.mp H; obtain ⟨t134, A580, H⟩ := H; replace H : (some t134) = some true := H; have A58 := Aside0.mk A580; clear A580; have HE_ := Aside0.mk (Option.some.inj H); clear H; obtain ⟨Ao59, co59, eo59⟩ := Kd.R_slice HO_5.out; subst eo59; try go_wp2
            replace HO_5 := Aside0.mk (Kd.R_drew HO_5.out); replace HO_107001 := Aside0.mk (Kd.R_drew HO_107001.out); replace BK106 := Aside0.mk (blk_drew BK106.out); replace HB := Aside0.mk (below_drew1 HB.out); have q61 : ((ji55) : Int) ≤ ((t107.length : Int) : Int) := ua; obtain ⟨i061, hi061, _, hsz61, _⟩ := info_parts info3; have hroom61 : t107.length ≤ co59 := (Kd.R_reads' HO_5.out).2.1; have hC61 : Kd.C (Kd.int .i64) _ Ao59 t107.length t107 := (Kd.R_reads' HO_5.out).2.2; have hcut61 := cut_to (P := Try.prog) 26 3 .i64 Try.underlying26 hi061 Ao59 t107.length co59 (ji55) (ua) q61 hroom61; have hr61 := Kd.C_take (m := ((ji55) : Int).toNat) hC61 (by omega); have hy61 : y130.length = ((ji55) : Int).toNat := (by rw [Ny130.out, List.length_take]; omega)
            rw [← Ny130.out] at hr61; rw [← hy61] at hcut61; have HR133 := Aside0.mk hr61; have HC133 := Aside0.mk (show y130.length ≤ co59 from by omega); clear hr61 hC61 hroom61 hi061 hsz61; have KY61 := Aside0.mk hy61; clear hy61; have KL61 := Aside0.mk (show ((ji55) : Int).toNat ≤ t107.length from by omega); replace q61 := eq_true q61; refine start_ (n := 20) (S := fun w' => w'.cell? ⟨gb106, 0, none⟩ = some (.int .i64 t101) ∧ w'.cell? ⟨gb106, 1, none⟩ = some (.slice Ao9 t102.length co9)) (ds := []) (zt 20 0) (by kernel_rfl) rfl (by kernel_rfl) (b2_ BK106) (fun hHeld => ?_); refine with_tabW laws_FnMarkPick.tab12 laws_FnMarkPick.bits12 (fun HT_ HW_ => ?_); generalize wr.drew = w60 at HO_5 HO_107001 BK106 HB HR133 hHeld ⊢; refine qz HT_ 0 ?_; refine qz HT_ 1 ?_; refine qz HT_ 2 ?_; refine qz HT_ 3 ?_; refine qz HT_ 4 ?_; refine qz HT_ 5 ?_; refine qz HT_ 6 ?_; refine qz HT_ 7 ?_; refine qz HT_ 9 ?_; refine qz HT_ 10 ?_; refine qz HT_ 12 ?_; refine qz HT_ 13 ?_; refine qz HT_ 14 ?_; refine qz HT_ 15 ?_; refine qt HT_ HW_ hHeld 8 ?_; refine qo HT_ 11 (fun K hK => ?_); refine goes_ Try.func40 (by kernel_rfl) rfl #[.agg #[.int .i64 t101, .slice Ao9 t102.length co9], .int .i64 ji55] (by rfl) rfl rfl (by (try simp only [List.map_toArray, List.map_cons, List.map_nil]); first | done | (simp only [hji55]; rfl) | rfl | (simp only [List.length_drop, List.length_take]; rfl)) ?_; with_reducible refine (impl_MarkPick.calls k2 t101 _ _ t102 ji55 t127 _ ?side1 ?side2 A54.out).mono ?_
            (case side1 => exact uD (Kd.R_reads' HO_107001.out).2.2); (case side2 => exact (Kd.R_reads' HO_107001.out).2.1); rintro e w62 ⟨v128, rfl, ho0, hb⟩; refine ⟨_, rfl, ?_⟩; replace HO_107001 := Aside0.mk (Kd.R_below (ur HO_107001) hb); have HO129 := Aside0.mk (Kd.R_lower (Kd.R_new' ho0 (Kd.R_lt (ur HO_5))) (below_size (uB1 HB GE106.out))); replace HO_5 := Aside0.mk (Kd.R_elder' (ur HO_5) (Kd.R_base ho0) hb); replace BK106 := bb BK106 hb; replace HR133 := Aside0.mk (Kd.C_below (by repeat (first | (with_reducible exact HR133.out) | (with_reducible refine Kd.C_alloc ?_ _) | (with_reducible refine Kd.C_drewN ?_ _) | (with_reducible refine Kd.C_drew ?_) | exact HR133.out)) hb); replace HB := Aside0.mk (below_step (uB1 HB GE106.out) hb); (try clear hb); (try clear hb2); (try clear hk); (try clear hi); (try clear ho0); obtain ⟨Ao63, co63, eo63⟩ := Kd.R_slice HO129.out; (first | subst eo63 | (injection eo63 with f1_ f2_ f3_; have f4_ := f1_.symm; have f5_ := f3_.symm; clear f1_ f2_ f3_; subst f4_; subst f5_)); refine hK.out _ _ (b2_ BK106) (fun hHeld => ?_); clear hK K; refine nz ?_
            refine qo HT_ 16 (fun K hK => ?_); refine goes_ Try.func36 (by kernel_rfl) rfl #[.slice Ao63 t127.length co63, .slice Ao59 y130.length co59] (by rfl) rfl rfl ul ?_; with_reducible refine (laws_wkInts.calls k2 _ _ t127 _ _ y130 t134 _ ?side1 ?side2 ?side3 ?side4 A58.out).mono ?_
            (case side1 => exact uD (Kd.R_reads' HO129.out).2.2); (case side2 => exact (Kd.R_reads' HO129.out).2.1); (case side3 => repeat (first | exact (by repeat (first | (with_reducible exact HR133.out) | (with_reducible refine Kd.C_alloc ?_ _) | (with_reducible refine Kd.C_drewN ?_ _) | (with_reducible refine Kd.C_drew ?_) | exact HR133.out)) | (with_reducible refine Kd.C_alloc ?_ _) | (with_reducible refine Kd.C_drewN ?_ _) | (with_reducible refine Kd.C_drew ?_))); (case side4 => exact HC133.out); rintro e w' ⟨rfl, ⟨nd, rfl⟩⟩; refine ⟨_, rfl, ?_⟩; refine hK.out _ _ (b2_ BK106) (fun hHeld => ?_); clear hK K; refine nz ?_
            refine qz HT_ 17 ?_; refine qz HT_ 18 ?_; refine qz HT_ 19 ?_; refine done_ (done_of HT_.out (by kernel_rfl)) ?_; try go_wp2
            go_ret; exact ⟨by first | rfl | (simp [errW_none, errW_some] <;> rfl) | (simp only [← hji55]; first | rfl | (simp [errW_none, errW_some] <;> rfl)) | (simp [*, errW_none, errW_some] <;> rfl) | exact congrArg (fun b_ => Ending.returned (Value.bool b_)) HE_.out, uB1 HB GE106.out⟩
           ·
            rw [if_neg c57] at H; exact absurd H (by simp)
          ·
           rw [if_neg c56] at H; exact absurd H (by simp)
        ·
         rw [if_neg c50] at H; obtain ⟨c50b0, c50b1⟩ := dQ c50; exact absurd H (by simp)

/-- THE ONE PURE STATEMENT of laws_FnMarkPick: yours. -/
def laws_FnMarkPick.Pure : Prop := ∀ (l0 : List Int), l0.length ≤ maxLen → l0.length * 1 ≤ 140737488351232 → (∀ x ∈ l0, (Lit.int .u8 x).wf = true) → ∃ k, laws_FnMarkPick.f k l0 = some true
theorem laws_FnMarkPick.walk (P : laws_FnMarkPick.Pure) (a0 : Option Addr) (len0 cap0 : Nat) (z0 : List Int) (w : World) (w0 : (a0 = none ∧ len0 = 0 ∧ cap0 = 0 ∧ z0 = []) ∨ ∃ x, a0 = some x ∧ len0 ≤ cap0 ∧ cap0 ≤ maxLen ∧ z0.length = cap0 ∧ (∀ i, i < z0.length → w.cell? (x.add i) = some (.int .u8 (z0.getD i 0))) ∧ ∀ n ∈ z0, (Lit.int .u8 n).wf = true) (y0 : len0 * 1 ≤ 140737488351232) :
  Calls Try.prog 9 #[.slice a0 len0 cap0] w fun e w' => e = .returned (.bool true) ∧ Below w.heap.size w w' := by
 obtain ⟨l0, rfl, hr0, hm0, hw0, hc0⟩ := ReadsInt.ofRowC w0
 obtain ⟨k, h⟩ := P l0 hm0 y0 hw0
 refine (laws_FnMarkPick.calls k _ _ l0 w (Kd.C_of_reads (d := (0 : Int)) (h1 := fun _ => rfl) hr0) hc0 h).mono ?_
 rintro e w' ⟨rfl, hd⟩
 exact ⟨rfl, hd⟩

end Go.Proofs.Ytblpdfgplifccaa.P
