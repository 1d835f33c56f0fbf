-- written for this claim by a program (wip/gen/myprint.py over the print tool). Not trusted: Lean checks it.
import Derived.Test.YtblpdfgplifccaaPx0
import Derived.Test.YtblpdfgplifccaaHUp
import Derived.Test.YtblpdfgplifccaaPFSpecDrawpartedges
import Derived.Test.YtblpdfgplifccaaPFImplPartcut
import Derived.Test.YtblpdfgplifccaaPFSpecPartcut
import Derived.Test.YtblpdfgplifccaaPFSpecPartedges
import Derived.Test.YtblpdfgplifccaaPFImplPartedges
import Derived.Test.YtblpdfgplifccaaGWk
namespace Go.Proofs.Ytblpdfgplifccaa.P
open Go.RowKit Go.Proofs.YtblpdfgplifccaaV.PrintWords Go.Proofs.YtblpdfgplifccaaV.PrintLast
set_option linter.unusedVariables false
set_option linter.unusedSimpArgs false

/-! ### laws_FnPartEdges: function 7 -/
mutual
def laws_FnPartEdges.j0 : Nat → List Int → List Int → Bool → Int → List (S33) → Option (Bool)
 | 0, _, _, _, _, _ => none
 | k + 1, x4, x5, x31, x109000, x109001 => if x31 = true then ((spec_PartEdges.f k x109000 x109001 x4).bind fun t117 => ((laws_wkInts.f k x5 t117).bind fun t120 => (if t120 = true then ((impl_PartCut.f x109000 x109001 x4).bind fun t121 => ((spec_PartCut.f k x109000 x109001 x4).bind fun t122 => (some (t121 == t122)))) else (some false)))) else (laws_FnPartEdges.l0 k x4 x5 0 x109000 x109001)
def laws_FnPartEdges.l0 : Nat → List Int → List Int → Int → Int → List (S33) → Option (Bool)
 | 0, _, _, _, _, _ => none
 | k + 1, x4, x5, x6, x109000, x109001 => if x6 < (x109001.length : Int) then (if 0 ≤ x6 then (if 0 ≤ ((rd_T33 x109001 x6).f0) then (if ((rd_T33 x109001 x6).f0) < (x4.length : Int) then (if 0 ≤ ((rd_T33 x109001 x6).f1) then (if ((rd_T33 x109001 x6).f1) < (x4.length : Int) then (if (rd x4 ((rd_T33 x109001 x6).f0)) = (rd x4 ((rd_T33 x109001 x6).f1)) then (laws_FnPartEdges.l0 k x4 x5 (wrap64 (x6 + 1)) x109000 x109001) else ((laws_wkIn.f k x5 ((rd_T33 x109001 x6).f0)).bind fun t127 => (if t127 = true then ((laws_wkIn.f k x5 ((rd_T33 x109001 x6).f1)).bind fun t128 => (if t128 = true then (laws_FnPartEdges.l0 k x4 x5 (wrap64 (x6 + 1)) x109000 x109001) else (some false))) else (some false)))) else (none)) else (none)) else (none)) else (none)) else (none)) else (laws_FnPartEdges.l1 k x4 x5 1 x109000 x109001)
def laws_FnPartEdges.l1 : Nat → List Int → List Int → Int → Int → List (S33) → Option (Bool)
 | 0, _, _, _, _, _ => none
 | k + 1, x4, x5, x8, x109000, x109001 => if x8 < (x5.length : Int) then (if 0 ≤ x8 then (if 0 ≤ (wrap64 (x8 - 1)) then (if (wrap64 (x8 - 1)) < (x5.length : Int) then (if (rd x5 x8) ≤ (rd x5 (wrap64 (x8 - 1))) then (some false) else (laws_FnPartEdges.l1 k x4 x5 (wrap64 (x8 + 1)) x109000 x109001)) else (none)) else (none)) else (none)) else (if 0 ≤ x109000 then (if (x109000 : Int).toNat ≤ 35184372088832 then ((impl_PartEdges.f x109000 x109001 (List.replicate (x109000 : Int).toNat 0)).bind fun t134 => (if (t134.length : Int) = 0 then ((impl_PartCut.f x109000 x109001 x4).bind fun t137 => (some ((decide ((x5.length : Int) > 0)) == (decide (t137 > 0))))) else (some false))) else (none)) else (none))
end
def laws_FnPartEdges.f (k : Nat) (l0 : List Int) : Option (Bool) := if (l0.length : Int) > 1048576 then (some true) else ((spec_DrawPartEdges.f k l0).bind fun bt101 => ((impl_PartEdges.f bt101.1 bt101.2.1 bt101.2.2).bind fun t109 => ((spec_PartEdges.f k bt101.1 bt101.2.1 bt101.2.2).bind fun t112 => ((laws_wkInts.f k t109 t112).bind fun t115 => (if t115 = true then ((impl_PartCut.f bt101.1 bt101.2.1 bt101.2.2).bind fun t116 => (laws_FnPartEdges.j0 k bt101.2.2 t109 (decide (t116 < 0)) bt101.1 bt101.2.1)) else (laws_FnPartEdges.j0 k bt101.2.2 t109 true bt101.1 bt101.2.1))))))
def laws_FnPartEdges.T6 : Bool × List (List Nat × List Nat) := (true, [([], []), ([], []), ([], []), ([1, 2], [1, 2]), ([0, 3, 3], [0, 3]), ([4, 4], [4]), ([5], [5]), ([5], [5]), ([6, 7, 5, 5], [5, 6, 7]), ([5], [5]), ([5], [5]), ([9, 10, 8, 5], [5, 9, 10]), ([8, 11, 5], [5, 8, 11]), ([5, 12], [5, 12]), ([13, 11, 0, 1, 2, 3, 4, 5, 6, 7, 8, 9, 10, 11, 12, 13], [13])])
def laws_FnPartEdges.B6 : List Nat := [0, 0, 0, 6, 15, 31, 63, 63, 255, 63, 63, 2047, 4095, 8191, 16383]
theorem laws_FnPartEdges.tab6 : rtab .any (opsOf Try.f7 6) = laws_FnPartEdges.T6 := by kernel_rfl
theorem laws_FnPartEdges.bits6 : waitsOk laws_FnPartEdges.T6.2 laws_FnPartEdges.B6 = true := by kernel_rfl
def laws_FnPartEdges.T11 : Bool × List (List Nat × List Nat) := (true, [([], []), ([], []), ([1], [1]), ([0, 2], [0, 2]), ([3], [3]), ([], []), ([], []), ([6], [6]), ([5, 7], [5, 7]), ([8], [8]), ([4, 9], [4, 9]), ([10], [10]), ([11], [11]), ([11], [11]), ([13, 11], [11, 13]), ([12, 14, 11, 11], [11, 12, 14]), ([15, 11], [11, 15]), ([16, 15, 11], [11, 16]), ([17], [17]), ([17], [17]), ([19, 17], [17, 19]), ([18, 20, 17, 17], [17, 18, 20]), ([21, 17], [17, 21]), ([17, 22, 11], [11, 17, 22]), ([11, 23], [11, 23])])
def laws_FnPartEdges.B11 : List Nat := [0, 0, 2, 7, 15, 0, 0, 64, 224, 480, 1023, 2047, 4095, 4095, 12287, 32767, 65535, 131071, 262143, 262143, 786431, 2097151, 4194303, 8388607, 16777215]
theorem laws_FnPartEdges.tab11 : rtab .any (opsOf Try.f7 11) = laws_FnPartEdges.T11 := by kernel_rfl
theorem laws_FnPartEdges.bits11 : waitsOk laws_FnPartEdges.T11.2 laws_FnPartEdges.B11 = true := by kernel_rfl
def laws_FnPartEdges.T16 : Bool × List (List Nat × List Nat) := (true, [([], []), ([], []), ([0, 1], [0, 1]), ([2], [2]), ([], []), ([], []), ([5], [5]), ([4, 6], [4, 6]), ([7], [7]), ([3, 8], [3, 8])])
def laws_FnPartEdges.B16 : List Nat := [0, 0, 3, 7, 0, 0, 32, 112, 240, 511]
theorem laws_FnPartEdges.tab16 : rtab .any (opsOf Try.f7 16) = laws_FnPartEdges.T16 := by kernel_rfl
theorem laws_FnPartEdges.bits16 : waitsOk laws_FnPartEdges.T16.2 laws_FnPartEdges.B16 = true := by kernel_rfl
def laws_FnPartEdges.T18 : Bool × List (List Nat × List Nat) := (true, [([], []), ([], []), ([1], [1]), ([2, 2], [2]), ([0, 3], [0, 3]), ([4], [4]), ([5], [5]), ([6, 4], [6]), ([7], [7]), ([8, 7], [7, 8]), ([9, 7], [7, 9]), ([7], [7]), ([7], [7]), ([11, 12, 7, 7], [7, 11, 12]), ([13, 7], [7, 13]), ([10, 14, 7], [7, 10, 14]), ([7, 15], [7, 15]), ([16, 13, 0, 1, 2, 3, 4, 5, 6, 7, 8, 9, 10, 11, 12, 13, 14, 15, 16], [16])])
def laws_FnPartEdges.B18 : List Nat := [0, 0, 2, 6, 15, 31, 63, 127, 255, 511, 1023, 255, 255, 6399, 14591, 32767, 65535, 131071]
theorem laws_FnPartEdges.tab18 : rtab .any (opsOf Try.f7 18) = laws_FnPartEdges.T18 := by kernel_rfl
theorem laws_FnPartEdges.bits18 : waitsOk laws_FnPartEdges.T18.2 laws_FnPartEdges.B18 = true := by kernel_rfl
set_option maxHeartbeats 8000000 in
set_option maxRecDepth 100000 in
theorem laws_FnPartEdges.calls (k : Nat) (A0 : Option Addr) (c0 : Nat) (l0 : List Int) (w : World) (hr0 : Kd.C (Kd.int .u8) w A0 l0.length l0) (hc0 : l0.length ≤ c0) (h : laws_FnPartEdges.f k l0 = some true) :
  Calls Try.prog 7 #[.slice A0 l0.length c0] w fun e w' => e = .returned (.bool true) ∧ Below w.heap.size w w' := by
 have hu25 := Try.underlying25
 have hu33 := Try.underlying33
 have HR0 := Aside0.mk hr0
 have HC0 := Aside0.mk hc0
 clear hr0 hc0
 have HB := Aside0.mk (Below.refl w.heap.size w)
 have H : (if (l0.length : Int) > 1048576 then (some true) else ((spec_DrawPartEdges.f k l0).bind fun bt101 => ((impl_PartEdges.f bt101.1 bt101.2.1 bt101.2.2).bind fun t109 => ((spec_PartEdges.f k bt101.1 bt101.2.1 bt101.2.2).bind fun t112 => ((laws_wkInts.f k t109 t112).bind fun t115 => (if t115 = true then ((impl_PartCut.f bt101.1 bt101.2.1 bt101.2.2).bind fun t116 => (laws_FnPartEdges.j0 k bt101.2.2 t109 (decide (t116 < 0)) bt101.1 bt101.2.1)) else (laws_FnPartEdges.j0 k bt101.2.2 t109 true bt101.1 bt101.2.1))))))) = some true := h
 clear h
 by_cases c2 : (l0.length : Int) > 1048576
 ·
  rw [if_pos c2] at H; have c2b0 := dl c2; have c2b1 : decide (1048576 < l0.length) = true := decide_eq_true (by omega); clear c2; clear H; go_enter Try.func7, Try.ntmps7; go_wp2; go_ret; exact ⟨by first | rfl | (simp [errW_none, errW_some] <;> rfl) | (simp [*, errW_none, errW_some] <;> rfl) | exact congrArg (fun b_ => Ending.returned (Value.bool b_)) HE_.out | (have h_ := HE_.out; simp only [gt_iff_lt, Int.natCast_pos] at h_; exact congrArg (fun b_ => Ending.returned (Value.bool b_)) h_), uB0 HB⟩
 ·
  rw [if_neg c2] at H; have c2b0 := DL c2; have c2b1 : decide (1048576 < l0.length) = false := decide_eq_false (by omega); clear c2; replace H := Option.bind_eq_some_iff.mp H; obtain ⟨⟨t101, t102, t105⟩, A30, H⟩ := H; replace H : ((impl_PartEdges.f t101 t102 t105).bind fun t109 => ((spec_PartEdges.f k t101 t102 t105).bind fun t112 => ((laws_wkInts.f k t109 t112).bind fun t115 => (if t115 = true then ((impl_PartCut.f t101 t102 t105).bind fun t116 => (laws_FnPartEdges.j0 k t105 t109 (decide (t116 < 0)) t101 t102)) else (laws_FnPartEdges.j0 k t105 t109 true t101 t102))))) = some true := H; have A3 := Aside0.mk A30; clear A30; replace H := Option.bind_eq_some_iff.mp H; obtain ⟨t109, A40, H⟩ := H; replace H : ((spec_PartEdges.f k t101 t102 t105).bind fun t112 => ((laws_wkInts.f k t109 t112).bind fun t115 => (if t115 = true then ((impl_PartCut.f t101 t102 t105).bind fun t116 => (laws_FnPartEdges.j0 k t105 t109 (decide (t116 < 0)) t101 t102)) else (laws_FnPartEdges.j0 k t105 t109 true t101 t102)))) = some true := H; have A4 := Aside0.mk A40; clear A40; have HC5 := Aside0.mk H; clear H; go_enter Try.func7, Try.ntmps7; go_upto_region 5 with (first | ((with_reducible refine gate_callee (f := 35) rfl ?_); refine goesL_ (some 14) rfl rfl Try.func35 (by kernel_rfl) rfl #[.slice A0 l0.length c0] rfl ul ?_; (with_reducible refine (spec_DrawPartEdges.calls k _ _ l0 t101 t102 t105 _ ?side1 ?side2 A3.out).mono ?_); (case side1 => repeat (first | exact HR0.out | (with_reducible refine Kd.C_alloc ?_ _) | (with_reducible refine Kd.C_drewN ?_ _) | (with_reducible refine Kd.C_drew ?_))); (case side2 => exact HC0.out); rintro e w6 ⟨v103, v106, rfl, ho0, ho1, hb⟩; refine ⟨_, rfl, ?_⟩; have HO104 := Aside0.mk (Kd.R_lower ho0 (below_size (uB0 HB))); have HO107 := Aside0.mk (Kd.R_lower ho1 (below_size (uB0 HB))); replace HB := Aside0.mk (below_step (uB0 HB) hb); (try clear hb); (try clear hb2); (try clear hk); (try clear hi); (try clear ho0); (try clear ho1)) | ((with_reducible refine gate_dst (N := 3) rfl ?_); refine be (cs := #[.int .i64 0, .slice none 0 0]) (t := 25) ?_; intro gb108 hg w7 hbox hb; replace HO104 := Aside0.mk (Kd.R_below (ur HO104) hb); replace HO107 := Aside0.mk (Kd.R_below (ur HO107) hb); have BK108 := Aside0.mk (hbox); have GW108 := gz w hg (uB0 HB); have GE108 := gz w hg (uB0 HB); replace HB := Aside0.mk (below_step (uB0 HB) hb); clear hb hbox hg; obtain ⟨hcz8_0, hcz8_1, hfz8_0, hfz8_1⟩ := bc2 BK108; obtain ⟨Ao9, co9, eo9⟩ := Kd.R_slice HO104.out; subst eo9; obtain ⟨Ao10, co10, eo10⟩ := Kd.R_slice HO107.out; subst eo10) | ((with_reducible refine gate_callee (f := 31) rfl ?_); refine goesL_ (some 19) rfl rfl Try.func31 (by kernel_rfl) rfl #[.agg #[.int .i64 t101, .slice Ao9 t102.length co9], .slice Ao10 t105.length co10] rfl ul ?_; (with_reducible refine (impl_PartEdges.calls t101 _ _ t102 _ _ t105 t109 _ ?side1 ?side2 ?side3 ?side4 A4.out).mono ?_); (case side1 => refine (Kd.R_reads' (e := 33) (base := w.heap.size) (ok := fun k_ => True) (n := t102.length) (c := co9) ?_).2.2; exact (by (with_reducible repeat (first | apply Kd.R_alloc | apply Kd.R_drewN | apply Kd.R_drew)); exact (Kd.R_mono (rf2 HO104 BK108) (fun _ h_ => h_.1)))); (case side2 => exact (Kd.R_reads' HO104.out).2.1); (case side3 => refine (Kd.R_reads' (e := 3) (base := w.heap.size) (ok := fun k_ => True) (n := t105.length) (c := co10) ?_).2.2; exact (by (with_reducible repeat (first | apply Kd.R_alloc | apply Kd.R_drewN | apply Kd.R_drew)); exact (Kd.R_mono (rf2 HO107 BK108) (fun _ h_ => h_.1)))); (case side4 => exact (Kd.R_reads' HO107.out).2.1); rintro e w11 ⟨v110, rfl, ho0, hb⟩; refine ⟨_, rfl, ?_⟩; replace HO104 := Aside0.mk (Kd.R_below (by (with_reducible repeat (first | apply Kd.R_alloc | apply Kd.R_drewN | apply Kd.R_drew)); exact (Kd.R_mono (rf2 HO104 BK108) (fun _ h_ => h_.1))) hb); have HO111 := Aside0.mk (Kd.R_lower (Kd.R_new' ho0 (Kd.R_lt (by (with_reducible repeat (first | apply Kd.R_alloc | apply Kd.R_drewN | apply Kd.R_drew)); exact (Kd.R_mono (rf2 HO107 BK108) (fun _ h_ => h_.1))))) (below_size (uB1 HB GE108.out))); replace HO107 := Aside0.mk (Kd.R_elder' (by (with_reducible repeat (first | apply Kd.R_alloc | apply Kd.R_drewN | apply Kd.R_drew)); exact (Kd.R_mono (rf2 HO107 BK108) (fun _ h_ => h_.1))) (Kd.R_base ho0) hb); replace BK108 := Aside0.mk (blk_below (g := gb108) (o := .cells #[.int .i64 t101, .slice Ao9 t102.length co9] 25 (0, 0)) (by (with_reducible repeat first | apply zbn | apply zbd | apply zba); refine pu2 (.int .i64 0) (.slice none 0 0) ?_; exact ub BK108) hb); replace HB := Aside0.mk (below_step (uB1 HB GE108.out) hb); (try clear hb); (try clear hb2); (try clear hk); (try clear hi); (try clear ho0)))
  (try simp only [Act.put, List.setIfInBounds_toArray, List.set_cons_zero, List.set_cons_succ]); go_cut [31] (fun v31 wc => ∃ (kq : Nat) (x31_4 : Bool), v31 = .bool x31_4 ∧ Aside0 (laws_FnPartEdges.j0 kq t105 t109 x31_4 t101 t102 = some true) ∧ Aside0 (kq ≤ k) ∧ Aside0 (Kd.R (Kd.int .i64) 3 wc w.heap.size (fun k_ => some k_ ≠ (v110 : Value).ownBlock) (.slice Ao10 t105.length co10) t105) ∧ Aside0 (Kd.R (Kd.int .i64) 3 wc w.heap.size (fun k_ => some k_ ≠ ((.slice Ao10 t105.length co10) : Value).ownBlock) v110 t109) ∧ Aside0 (Kd.R k33 33 wc w.heap.size (fun _ => True) (.slice Ao9 t102.length co9) t102) ∧ Aside0 (wc.heap[gb108]? = some (.cells #[.int .i64 t101, (.slice Ao9 t102.length co9)] 25 (0, 0))) ∧ Aside0 (Below w.heap.size w wc))
  case first =>
   have H := HC5.out; clear HC5; replace H := Option.bind_eq_some_iff.mp H; obtain ⟨t112, A120, H⟩ := H; replace H : ((laws_wkInts.f k t109 t112).bind fun t115 => (if t115 = true then ((impl_PartCut.f t101 t102 t105).bind fun t116 => (laws_FnPartEdges.j0 k t105 t109 (decide (t116 < 0)) t101 t102)) else (laws_FnPartEdges.j0 k t105 t109 true t101 t102))) = some true := H; have A12 := Aside0.mk A120; clear A120; replace H := Option.bind_eq_some_iff.mp H; obtain ⟨t115, A130, H⟩ := H; replace H : (if t115 = true then ((impl_PartCut.f t101 t102 t105).bind fun t116 => (laws_FnPartEdges.j0 k t105 t109 (decide (t116 < 0)) t101 t102)) else (laws_FnPartEdges.j0 k t105 t109 true t101 t102)) = some true := H; have A13 := Aside0.mk A130; clear A130; by_cases c14 : t115 = true
   ·
    subst c14; rw [if_pos rfl] at H; replace H := Option.bind_eq_some_iff.mp H; obtain ⟨t116, A150, H⟩ := H; replace H : (laws_FnPartEdges.j0 k t105 t109 (decide (t116 < 0)) t101 t102) = some true := H; have A15 := Aside0.mk A150; clear A150; have H' := Aside0.mk H; clear H; obtain ⟨hcz16_0, hcz16_1, hfz16_0, hfz16_1⟩ := bc2 BK108; go_wp2_with (first | ((with_reducible refine gate_callee (f := 30) rfl ?_); refine goesL_ (some 23) rfl rfl Try.func30 (by kernel_rfl) rfl #[.agg #[.int .i64 t101, .slice Ao9 t102.length co9], .slice Ao10 t105.length co10] rfl ul ?_; (with_reducible refine (spec_PartEdges.calls k t101 _ _ t102 _ _ t105 t112 _ ?side1 ?side2 ?side3 ?side4 A12.out).mono ?_); (case side1 => exact uD (Kd.R_reads' HO104.out).2.2); (case side2 => exact (Kd.R_reads' HO104.out).2.1); (case side3 => exact uD (Kd.R_reads' HO107.out).2.2); (case side4 => exact (Kd.R_reads' HO107.out).2.1); rintro e w17 ⟨v113, rfl, ho0, hb⟩; refine ⟨_, rfl, ?_⟩; replace HO104 := Aside0.mk (Kd.R_below (ur HO104) hb); have HO114 := Aside0.mk (Kd.R_lower (Kd.R_new' (Kd.R_new' ho0 (Kd.R_lt (ur HO107))) (Kd.R_lt (ur HO111))) (below_size (uB1 HB GE108.out))); replace HO107 := Aside0.mk (Kd.R_elder' (ur HO107) (Kd.R_base ho0) hb); replace HO111 := Aside0.mk (Kd.R_elder' (ur HO111) (Kd.R_base ho0) hb); replace BK108 := bb BK108 hb; replace HB := Aside0.mk (below_step (uB1 HB GE108.out) hb); (try clear hb); (try clear hb2); (try clear hk); (try clear hi); (try clear ho0); obtain ⟨Ao18, co18, eo18⟩ := Kd.R_slice HO111.out; subst eo18; obtain ⟨Ao19, co19, eo19⟩ := Kd.R_slice HO114.out; subst eo19) | ((with_reducible refine gate_callee (f := 36) rfl ?_); refine goesL_ (some 24) rfl rfl Try.func36 (by kernel_rfl) rfl #[.slice Ao18 t109.length co18, .slice Ao19 t112.length co19] rfl ul ?_; (with_reducible refine (laws_wkInts.calls k _ _ t109 _ _ t112 true _ ?side1 ?side2 ?side3 ?side4 A13.out).mono ?_); (case side1 => exact uD (Kd.R_reads' HO111.out).2.2); (case side2 => exact (Kd.R_reads' HO111.out).2.1); (case side3 => exact uD (Kd.R_reads' HO114.out).2.2); (case side4 => exact (Kd.R_reads' HO114.out).2.1); rintro e w' ⟨rfl, ⟨nd, rfl⟩⟩; refine ⟨_, rfl, ?_⟩; obtain ⟨hcz20_0, hcz20_1, hfz20_0, hfz20_1⟩ := bc2 BK108) | (go_at_call 22; (with_reducible refine (impl_PartCut.calls t101 _ _ t102 _ _ t105 t116 _ ?side1 ?side2 ?side3 ?side4 A15.out).mono ?_); (case side1 => exact uD (Kd.R_reads' HO104.out).2.2); (case side2 => exact (Kd.R_reads' HO104.out).2.1); (case side3 => exact uD (Kd.R_reads' HO107.out).2.2); (case side4 => exact (Kd.R_reads' HO107.out).2.1); rintro e w21 ⟨rfl, hb⟩; replace HO104 := Aside0.mk (Kd.R_below (ur HO104) hb); replace HO107 := Aside0.mk (Kd.R_below (ur HO107) hb); replace HO111 := Aside0.mk (Kd.R_below (ur HO111) hb); replace HO114 := Aside0.mk (Kd.R_below (ur HO114) hb); replace BK108 := bb BK108 hb; replace HB := Aside0.mk (below_step (uB1 HB GE108.out) hb); (try clear hb); (try clear hb2); (try clear hk); (try clear hi))); go_meet
    case rel => exact ⟨_, (decide (t116 < 0)), ue, H', ⟨by first | omega | exact Nat.le_refl _⟩, ⟨by (with_reducible repeat (first | apply Kd.R_alloc | apply Kd.R_drewN | apply Kd.R_drew)); exact Kd.R_mono HO107.out (fun _ hk => hk.1.2)⟩, ⟨by (with_reducible repeat (first | apply Kd.R_alloc | apply Kd.R_drewN | apply Kd.R_drew)); exact Kd.R_mono HO111.out (fun _ hk => hk.1.2)⟩, ⟨ur HO104⟩, ⟨ub BK108⟩, ⟨uB1 HB GE108.out⟩⟩
   ·
    replace c14 := Bool.eq_false_iff.mpr c14; subst c14; rw [if_neg (show ¬ (false = true) by decide)] at H; have H' := Aside0.mk H; clear H; obtain ⟨hcz22_0, hcz22_1, hfz22_0, hfz22_1⟩ := bc2 BK108; go_wp2_with (first | ((with_reducible refine gate_callee (f := 30) rfl ?_); refine goesL_ (some 23) rfl rfl Try.func30 (by kernel_rfl) rfl #[.agg #[.int .i64 t101, .slice Ao9 t102.length co9], .slice Ao10 t105.length co10] rfl ul ?_; (with_reducible refine (spec_PartEdges.calls k t101 _ _ t102 _ _ t105 t112 _ ?side1 ?side2 ?side3 ?side4 A12.out).mono ?_); (case side1 => exact uD (Kd.R_reads' HO104.out).2.2); (case side2 => exact (Kd.R_reads' HO104.out).2.1); (case side3 => exact uD (Kd.R_reads' HO107.out).2.2); (case side4 => exact (Kd.R_reads' HO107.out).2.1); rintro e w23 ⟨v113, rfl, ho0, hb⟩; refine ⟨_, rfl, ?_⟩; replace HO104 := Aside0.mk (Kd.R_below (ur HO104) hb); have HO114 := Aside0.mk (Kd.R_lower (Kd.R_new' (Kd.R_new' ho0 (Kd.R_lt (ur HO107))) (Kd.R_lt (ur HO111))) (below_size (uB1 HB GE108.out))); replace HO107 := Aside0.mk (Kd.R_elder' (ur HO107) (Kd.R_base ho0) hb); replace HO111 := Aside0.mk (Kd.R_elder' (ur HO111) (Kd.R_base ho0) hb); replace BK108 := bb BK108 hb; replace HB := Aside0.mk (below_step (uB1 HB GE108.out) hb); (try clear hb); (try clear hb2); (try clear hk); (try clear hi); (try clear ho0); obtain ⟨Ao24, co24, eo24⟩ := Kd.R_slice HO111.out; subst eo24; obtain ⟨Ao25, co25, eo25⟩ := Kd.R_slice HO114.out; subst eo25) | ((with_reducible refine gate_callee (f := 36) rfl ?_); refine goesL_ (some 24) rfl rfl Try.func36 (by kernel_rfl) rfl #[.slice Ao24 t109.length co24, .slice Ao25 t112.length co25] rfl ul ?_; (with_reducible refine (laws_wkInts.calls k _ _ t109 _ _ t112 false _ ?side1 ?side2 ?side3 ?side4 A13.out).mono ?_); (case side1 => exact uD (Kd.R_reads' HO111.out).2.2); (case side2 => exact (Kd.R_reads' HO111.out).2.1); (case side3 => exact uD (Kd.R_reads' HO114.out).2.2); (case side4 => exact (Kd.R_reads' HO114.out).2.1); rintro e w' ⟨rfl, ⟨nd, rfl⟩⟩; refine ⟨_, rfl, ?_⟩)); go_meet
    case rel => exact ⟨_, (true), ue, H', ⟨by first | omega | exact Nat.le_refl _⟩, ⟨by (with_reducible repeat (first | apply Kd.R_alloc | apply Kd.R_drewN | apply Kd.R_drew)); exact Kd.R_mono HO107.out (fun _ hk => hk.1.2)⟩, ⟨by (with_reducible repeat (first | apply Kd.R_alloc | apply Kd.R_drewN | apply Kd.R_drew)); exact Kd.R_mono HO111.out (fun _ hk => hk.1.2)⟩, ⟨ur HO104⟩, ⟨ub BK108⟩, ⟨uB1 HB GE108.out⟩⟩
  case rest =>
   clear HC5; try clear c1
   try clear c2
   try clear c2b0
   try clear c2b1
   try clear p2
   try clear c3
   try clear c7
   try clear c14
   try clear hcz16_0 hcz16_1
   try clear hcz20_0 hcz20_1
   try clear hcz22_0 hcz22_1
   try clear hcz8_0 hcz8_1
   try clear hfz16_0 hfz16_1
   try clear hfz20_0 hfz20_1
   try clear hfz22_0 hfz22_1
   try clear hfz8_0 hfz8_1
   obtain ⟨kq, x31_4, rfl, HA, HJ4, HO_4, HO_5, HO_109001, BK108, HB⟩ := hcut
   cases kq with
   | zero => exact absurd HA.out (by simp [laws_FnPartEdges.j0])
   | succ kj4 =>
    have H := HA.out; clear HA; simp only [laws_FnPartEdges.j0] at H; by_cases c26 : x31_4 = true
    ·
     subst c26; rw [if_pos rfl] at H; replace H := Option.bind_eq_some_iff.mp H; obtain ⟨t117, A270, H⟩ := H; replace H : ((laws_wkInts.f kj4 t109 t117).bind fun t120 => (if t120 = true then ((impl_PartCut.f t101 t102 t105).bind fun t121 => ((spec_PartCut.f kj4 t101 t102 t105).bind fun t122 => (some (t121 == t122)))) else (some false))) = some true := H; have A27 := Aside0.mk A270; clear A270; replace H := Option.bind_eq_some_iff.mp H; obtain ⟨t120, A280, H⟩ := H; replace H : (if t120 = true then ((impl_PartCut.f t101 t102 t105).bind fun t121 => ((spec_PartCut.f kj4 t101 t102 t105).bind fun t122 => (some (t121 == t122)))) else (some false)) = some true := H; have A28 := Aside0.mk A280; clear A280; by_cases c29 : t120 = true
     ·
      subst c29; rw [if_pos rfl] at H; replace H := Option.bind_eq_some_iff.mp H; obtain ⟨t121, A300, H⟩ := H; replace H : ((spec_PartCut.f kj4 t101 t102 t105).bind fun t122 => (some (t121 == t122))) = some true := H; have A30 := Aside0.mk A300; clear A300; replace H := Option.bind_eq_some_iff.mp H; obtain ⟨t122, A310, H⟩ := H; replace H : (some (t121 == t122)) = some true := H; have A31 := Aside0.mk A310; clear A310; have HE_ := Aside0.mk (Option.some.inj H); clear H; try go_wp2
      replace HO_4 := Aside0.mk (Kd.R_drew HO_4.out); replace HO_5 := Aside0.mk (Kd.R_drew HO_5.out); replace HO_109001 := Aside0.mk (Kd.R_drew HO_109001.out); replace BK108 := Aside0.mk (blk_drew BK108.out); replace HB := Aside0.mk (below_drew1 HB.out); refine start_ (n := 15) (S := fun w' => w'.cell? ⟨gb108, 0, none⟩ = some (.int .i64 t101) ∧ w'.cell? ⟨gb108, 1, none⟩ = some (.slice Ao9 t102.length co9)) (ds := []) (zt 15 0) (by kernel_rfl) rfl (by kernel_rfl) (b2_ BK108) (fun hHeld => ?_); refine with_tabW laws_FnPartEdges.tab6 laws_FnPartEdges.bits6 (fun HT_ HW_ => ?_); generalize wc.drew = w32 at HO_4 HO_5 HO_109001 BK108 HB hHeld ⊢; refine qz HT_ 0 ?_; refine qz HT_ 2 ?_; refine qt HT_ HW_ hHeld 1 ?_; refine qo HT_ 3 (fun K hK => ?_); refine goes_ Try.func30 (by kernel_rfl) rfl #[.agg #[.int .i64 t101, .slice Ao9 t102.length co9], .slice Ao10 t105.length co10] (by rfl) rfl rfl ul ?_; with_reducible refine (spec_PartEdges.calls kj4 t101 _ _ t102 _ _ t105 t117 _ ?side1 ?side2 ?side3 ?side4 A27.out).mono ?_
      (case side1 => exact uD (Kd.R_reads' HO_109001.out).2.2); (case side2 => exact (Kd.R_reads' HO_109001.out).2.1); (case side3 => exact uD (Kd.R_reads' HO_4.out).2.2); (case side4 => exact (Kd.R_reads' HO_4.out).2.1); rintro e w33 ⟨v118, rfl, ho0, hb⟩; refine ⟨_, rfl, ?_⟩; replace HO_109001 := Aside0.mk (Kd.R_below (ur HO_109001) hb); have HO119 := Aside0.mk (Kd.R_lower (Kd.R_new' (Kd.R_new' ho0 (Kd.R_lt (ur HO_4))) (Kd.R_lt (ur HO_5))) (below_size (uB1 HB GE108.out))); replace HO_4 := Aside0.mk (Kd.R_elder' (ur HO_4) (Kd.R_base ho0) hb); replace HO_5 := Aside0.mk (Kd.R_elder' (ur HO_5) (Kd.R_base ho0) hb); replace BK108 := bb BK108 hb; replace HB := Aside0.mk (below_step (uB1 HB GE108.out) hb); (try clear hb); (try clear hb2); (try clear hk); (try clear hi); (try clear ho0); obtain ⟨Ao34, co34, eo34⟩ := Kd.R_slice HO_5.out; (first | subst eo34 | (injection eo34 with f1_ f2_ f3_; have f4_ := f1_.symm; have f5_ := f3_.symm; clear f1_ f2_ f3_; subst f4_; subst f5_)); obtain ⟨Ao35, co35, eo35⟩ := Kd.R_slice HO119.out; (first | subst eo35 | (injection eo35 with f1_ f2_ f3_; have f4_ := f1_.symm; have f5_ := f3_.symm; clear f1_ f2_ f3_; subst f4_; subst f5_)); refine hK.out _ _ (b2_ BK108) (fun hHeld => ?_); clear hK K; refine nz ?_
      refine qo HT_ 4 (fun K hK => ?_); refine goes_ Try.func36 (by kernel_rfl) rfl #[.slice Ao34 t109.length co34, .slice Ao35 t117.length co35] (by rfl) rfl rfl ul ?_; with_reducible refine (laws_wkInts.calls kj4 _ _ t109 _ _ t117 true _ ?side1 ?side2 ?side3 ?side4 A28.out).mono ?_
      (case side1 => exact uD (Kd.R_reads' HO_5.out).2.2); (case side2 => exact (Kd.R_reads' HO_5.out).2.1); (case side3 => exact uD (Kd.R_reads' HO119.out).2.2); (case side4 => exact (Kd.R_reads' HO119.out).2.1); rintro e w' ⟨rfl, ⟨nd, rfl⟩⟩; refine ⟨_, rfl, ?_⟩; refine hK.out _ _ (b2_ BK108) (fun hHeld => ?_); clear hK K; refine nz ?_
      refine qz HT_ 5 ?_; refine qz HT_ 7 ?_; refine qz HT_ 10 ?_; refine qt HT_ HW_ hHeld 6 ?_; refine qt HT_ HW_ hHeld 9 ?_; refine qo HT_ 8 (fun K hK => ?_); refine goes_ Try.func22 (by kernel_rfl) rfl #[.agg #[.int .i64 t101, .slice Ao9 t102.length co9], .slice Ao10 t105.length co10] (by rfl) rfl rfl ul ?_; with_reducible refine (impl_PartCut.calls t101 _ _ t102 _ _ t105 t121 _ ?side1 ?side2 ?side3 ?side4 A30.out).mono ?_
      (case side1 => exact uD (Kd.R_reads' HO_109001.out).2.2); (case side2 => exact (Kd.R_reads' HO_109001.out).2.1); (case side3 => exact uD (Kd.R_reads' HO_4.out).2.2); (case side4 => exact (Kd.R_reads' HO_4.out).2.1); rintro e w36 ⟨rfl, hb⟩; refine ⟨_, rfl, ?_⟩; replace HO_4 := Aside0.mk (Kd.R_below (ur HO_4) hb); replace HO_5 := Aside0.mk (Kd.R_below (ur HO_5) hb); replace HO_109001 := Aside0.mk (Kd.R_below (ur HO_109001) hb); replace HO119 := Aside0.mk (Kd.R_below (ur HO119) hb); replace BK108 := bb BK108 hb; replace HB := Aside0.mk (below_step (uB1 HB GE108.out) hb); (try clear hb); (try clear hb2); (try clear hk); (try clear hi); refine hK.out _ _ (b2_ BK108) (fun hHeld => ?_); clear hK K; refine nz ?_
      refine qo HT_ 11 (fun K hK => ?_); refine goes_ Try.func23 (by kernel_rfl) rfl #[.agg #[.int .i64 t101, .slice Ao9 t102.length co9], .slice Ao10 t105.length co10] (by rfl) rfl rfl ul ?_; with_reducible refine (spec_PartCut.calls kj4 t101 _ _ t102 _ _ t105 t122 _ ?side1 ?side2 ?side3 ?side4 A31.out).mono ?_
      (case side1 => exact uD (Kd.R_reads' HO_109001.out).2.2); (case side2 => exact (Kd.R_reads' HO_109001.out).2.1); (case side3 => exact uD (Kd.R_reads' HO_4.out).2.2); (case side4 => exact (Kd.R_reads' HO_4.out).2.1); rintro e w37 ⟨rfl, hb⟩; refine ⟨_, rfl, ?_⟩; replace HO_4 := Aside0.mk (Kd.R_below (ur HO_4) hb); replace HO_5 := Aside0.mk (Kd.R_below (ur HO_5) hb); replace HO_109001 := Aside0.mk (Kd.R_below (ur HO_109001) hb); replace HO119 := Aside0.mk (Kd.R_below (ur HO119) hb); replace BK108 := bb BK108 hb; replace HB := Aside0.mk (below_step (uB1 HB GE108.out) hb); (try clear hb); (try clear hb2); (try clear hk); (try clear hi); refine hK.out _ _ (b2_ BK108) (fun hHeld => ?_); clear hK K; refine nz ?_
      refine qz HT_ 12 ?_; refine qz HT_ 13 ?_; refine qz HT_ 14 ?_; refine done_ (done_of HT_.out (by kernel_rfl)) ?_; try go_wp2
      go_ret; exact ⟨by first | rfl | (simp [errW_none, errW_some] <;> rfl) | (simp [*, errW_none, errW_some] <;> rfl) | exact congrArg (fun b_ => Ending.returned (Value.bool b_)) HE_.out | (have h_ := HE_.out; simp only [gt_iff_lt, Int.natCast_pos] at h_; exact congrArg (fun b_ => Ending.returned (Value.bool b_)) h_), uB1 HB GE108.out⟩
     ·
      replace c29 := Bool.eq_false_iff.mpr c29; subst c29; rw [if_neg (show ¬ (false = true) by decide)] at H; exact absurd H (by simp)
    ·
     replace c26 := Bool.eq_false_iff.mpr c26; subst c26; rw [if_neg (show ¬ (false = true) by decide)] at H; have H' := Aside0.mk H; clear H; go_wp2; go_loopg [6] kj4 (fun kq v6 w' => ∃ (x6_2 : Int), v6 = .int .i64 x6_2 ∧ Aside0 (laws_FnPartEdges.l0 kq t105 t109 x6_2 t101 t102 = some true) ∧ Aside0 (kq ≤ kj4) ∧ Aside0 (Kd.R (Kd.int .i64) 3 w' w.heap.size (fun k_ => some k_ ≠ (v110 : Value).ownBlock) (.slice Ao10 t105.length co10) t105) ∧ Aside0 (Kd.R (Kd.int .i64) 3 w' w.heap.size (fun k_ => some k_ ≠ ((.slice Ao10 t105.length co10) : Value).ownBlock) v110 t109) ∧ Aside0 (Kd.R k33 33 w' w.heap.size (fun _ => True) (.slice Ao9 t102.length co9) t102) ∧ Aside0 (w'.heap[gb108]? = some (.cells #[.int .i64 t101, (.slice Ao9 t102.length co9)] 25 (0, 0))) ∧ Aside0 (Below w.heap.size w w'))
     case atStart => exact ⟨(0), ue, H', ⟨Nat.le_refl _⟩, ⟨ur HO_4⟩, ⟨ur HO_5⟩, ⟨ur HO_109001⟩, ⟨ub BK108⟩, ⟨uB1 HB GE108.out⟩⟩
     case round =>
      clear H'; try clear c1
      try clear c2
      try clear c2b0
      try clear c2b1
      try clear p2
      try clear c3
      try clear c7
      try clear c14
      try clear c22
      try clear c23
      try clear c26
      try clear c29
      try clear c30
      try clear c31
      try clear c35
      try clear c36
      try clear hcz16_0 hcz16_1
      try clear hcz20_0 hcz20_1
      try clear hcz22_0 hcz22_1
      try clear hcz8_0 hcz8_1
      try clear hfz16_0 hfz16_1
      try clear hfz20_0 hfz20_1
      try clear hfz22_0 hfz22_1
      try clear hfz8_0 hfz8_1
      try clear p2
      obtain ⟨x6_2, rfl, HA, HK2, HO_4, HO_5, HO_109001, BK108, HB⟩ := hrel
      cases gk with
      | zero => exact absurd HA.out (by simp [laws_FnPartEdges.l0])
      | succ k2 =>
       have H := HA.out; clear HA; simp only [laws_FnPartEdges.l0] at H; by_cases c38 : x6_2 < (t102.length : Int)
       ·
        rw [if_pos c38] at H; have c38b0 := dl c38; clear c38; by_cases c39 : 0 ≤ x6_2
        ·
         rw [if_pos c39] at H; have c39b0 := de c39; clear c39; by_cases c40 : 0 ≤ ((rd_T33 t102 x6_2).f0)
         ·
          rw [if_pos c40] at H; have c40b0 := de c40; clear c40; by_cases c41 : ((rd_T33 t102 x6_2).f0) < (t105.length : Int)
          ·
           rw [if_pos c41] at H; have c41b0 := dl c41; clear c41; by_cases c42 : 0 ≤ ((rd_T33 t102 x6_2).f1)
           ·
            rw [if_pos c42] at H; have c42b0 := de c42; clear c42; by_cases c43 : ((rd_T33 t102 x6_2).f1) < (t105.length : Int)
            ·
             rw [if_pos c43] at H; have c43b0 := dl c43; clear c43; by_cases c44 : (rd t105 ((rd_T33 t102 x6_2).f0)) = (rd t105 ((rd_T33 t102 x6_2).f1))
             ·
              rw [if_pos c44] at H; obtain ⟨c44b0, c44b1⟩ := dq c44; clear c44; have H' := Aside0.mk H; clear H; obtain ⟨hcz45_0, hcz45_1, hfz45_0, hfz45_1⟩ := bc2 BK108; have p123 : 0 ≤ (x6_2 : Int) := ua; have q123 : x6_2 < (t102.length : Int) := ua; obtain ⟨ad123, e123, hx123_0, hx123_1, hx123_2, hx123_3, hx123_4⟩ := at_T33 (Kd.R_reads' HO_109001.out).2.2 x6_2 p123 q123
              cases e123
              replace p123 := eq_true p123; replace q123 := eq_true q123; try go_wp2_with (first | ((with_reducible refine gate_dst (N := 7) rfl ?_); refine be (cs := #[.int .i64 0, .int .i64 0, .int .i64 0, .int .i64 0, .int .i64 0]) (t := 33) ?_; intro gb124 hg w46 hbox hb; replace HO_4 := Aside0.mk (Kd.R_below (ur HO_4) hb); replace HO_5 := Aside0.mk (Kd.R_below (ur HO_5) hb); replace HO_109001 := Aside0.mk (Kd.R_below (Kd.R_elderB (ur HO_109001) gb124 (Nat.le_of_eq hg.symm)) hb); have BK124 := Aside0.mk (hbox); have GW124 := gz w hg (uB1 HB GE108.out); have GE124 := gz w hg (uB1 HB GE108.out); replace HB := Aside0.mk (below_step (uB1 HB GE108.out) hb); have NB108_124 := gl hg BK108; have NB124_108 := gr hg BK108; replace BK108 := bb BK108 hb; clear hb hbox hg; have hnb47 := NB124_108.out; have hnc47 := NB108_124.out; obtain ⟨hcz48_0, hcz48_1, hcz48_2, hcz48_3, hcz48_4, hfz48_0, hfz48_1, hfz48_2, hfz48_3, hfz48_4⟩ := bc5 BK124))
              have n0_ : Aside0 (Kd.R (Kd.int .i64) 3 (((((w46.setCell ⟨gb124, 0, none⟩ (.int .i64 ((rd_T33 t102 x6_2).f0))).setCell ⟨gb124, 1, none⟩ (.int .i64 ((rd_T33 t102 x6_2).f1))).setCell ⟨gb124, 2, none⟩ (.int .i64 ((rd_T33 t102 x6_2).f2))).setCell ⟨gb124, 3, none⟩ (.int .i64 ((rd_T33 t102 x6_2).f3))).setCell ⟨gb124, 4, none⟩ (.int .i64 ((rd_T33 t102 x6_2).f4))) w.heap.size (fun k_ => some k_ ≠ (v110 : Value).ownBlock) (.slice Ao10 t105.length co10) t105) := ⟨by (with_reducible repeat (first | apply Kd.R_alloc | apply Kd.R_drewN | apply Kd.R_drew)); exact Kd.R_mono (rf5 HO_4 BK124) (fun _ hk => hk.1)⟩
              have n1_ : Aside0 (Kd.R (Kd.int .i64) 3 (((((w46.setCell ⟨gb124, 0, none⟩ (.int .i64 ((rd_T33 t102 x6_2).f0))).setCell ⟨gb124, 1, none⟩ (.int .i64 ((rd_T33 t102 x6_2).f1))).setCell ⟨gb124, 2, none⟩ (.int .i64 ((rd_T33 t102 x6_2).f2))).setCell ⟨gb124, 3, none⟩ (.int .i64 ((rd_T33 t102 x6_2).f3))).setCell ⟨gb124, 4, none⟩ (.int .i64 ((rd_T33 t102 x6_2).f4))) w.heap.size (fun k_ => some k_ ≠ (.slice Ao10 t105.length co10 : Value).ownBlock) v110 t109) := ⟨by (with_reducible repeat (first | apply Kd.R_alloc | apply Kd.R_drewN | apply Kd.R_drew)); exact Kd.R_mono (rf5 HO_5 BK124) (fun _ hk => hk.1)⟩
              have n2_ : Aside0 (Kd.R k33 33 (((((w46.setCell ⟨gb124, 0, none⟩ (.int .i64 ((rd_T33 t102 x6_2).f0))).setCell ⟨gb124, 1, none⟩ (.int .i64 ((rd_T33 t102 x6_2).f1))).setCell ⟨gb124, 2, none⟩ (.int .i64 ((rd_T33 t102 x6_2).f2))).setCell ⟨gb124, 3, none⟩ (.int .i64 ((rd_T33 t102 x6_2).f3))).setCell ⟨gb124, 4, none⟩ (.int .i64 ((rd_T33 t102 x6_2).f4))) w.heap.size (fun k_ => k_ ≠ gb124) (.slice (some ad123) t102.length co9) t102) := ⟨by (with_reducible repeat (first | apply Kd.R_alloc | apply Kd.R_drewN | apply Kd.R_drew)); exact Kd.R_mono (Kd.R_far (p := ⟨gb124, 4, none⟩) (Kd.R_far (p := ⟨gb124, 3, none⟩) (Kd.R_far (p := ⟨gb124, 2, none⟩) (Kd.R_far (p := ⟨gb124, 1, none⟩) (Kd.R_far (p := ⟨gb124, 0, none⟩) (Kd.R_mono HO_109001.out (fun k_ hk => (⟨hk, hk.2⟩ : _ ∧ k_ ≠ gb124))) (fun _ hk => hk.2) (.int .i64 ((rd_T33 t102 x6_2).f0))) (fun _ hk => hk.2) (.int .i64 ((rd_T33 t102 x6_2).f1))) (fun _ hk => hk.2) (.int .i64 ((rd_T33 t102 x6_2).f2))) (fun _ hk => hk.2) (.int .i64 ((rd_T33 t102 x6_2).f3))) (fun _ hk => hk.2) (.int .i64 ((rd_T33 t102 x6_2).f4))) (fun _ hk => hk.1.2)⟩
              have n3_ : Aside0 ((((((w46.setCell ⟨gb124, 0, none⟩ (.int .i64 ((rd_T33 t102 x6_2).f0))).setCell ⟨gb124, 1, none⟩ (.int .i64 ((rd_T33 t102 x6_2).f1))).setCell ⟨gb124, 2, none⟩ (.int .i64 ((rd_T33 t102 x6_2).f2))).setCell ⟨gb124, 3, none⟩ (.int .i64 ((rd_T33 t102 x6_2).f3))).setCell ⟨gb124, 4, none⟩ (.int .i64 ((rd_T33 t102 x6_2).f4))).heap[gb108]? = some (.cells #[.int .i64 t101, .slice (some ad123) t102.length co9] 25 (0, 0))) := ⟨by (with_reducible repeat first | apply zbn | apply zbd | apply zba); refine fa5 ?_ NB108_124; exact ub BK108⟩
              have n4_ : Aside0 ((((((w46.setCell ⟨gb124, 0, none⟩ (.int .i64 ((rd_T33 t102 x6_2).f0))).setCell ⟨gb124, 1, none⟩ (.int .i64 ((rd_T33 t102 x6_2).f1))).setCell ⟨gb124, 2, none⟩ (.int .i64 ((rd_T33 t102 x6_2).f2))).setCell ⟨gb124, 3, none⟩ (.int .i64 ((rd_T33 t102 x6_2).f3))).setCell ⟨gb124, 4, none⟩ (.int .i64 ((rd_T33 t102 x6_2).f4))).heap[gb124]? = some (.cells #[.int .i64 ((rd_T33 t102 x6_2).f0), .int .i64 ((rd_T33 t102 x6_2).f1), .int .i64 ((rd_T33 t102 x6_2).f2), .int .i64 ((rd_T33 t102 x6_2).f3), .int .i64 ((rd_T33 t102 x6_2).f4)] 33 (0, 0))) := ⟨by (with_reducible repeat first | apply zbn | apply zbd | apply zba); refine pu5 (.int .i64 0) (.int .i64 0) (.int .i64 0) (.int .i64 0) (.int .i64 0) ?_; exact ub BK124⟩
              have n5_ : Aside0 (Below w.heap.size w (((((w46.setCell ⟨gb124, 0, none⟩ (.int .i64 ((rd_T33 t102 x6_2).f0))).setCell ⟨gb124, 1, none⟩ (.int .i64 ((rd_T33 t102 x6_2).f1))).setCell ⟨gb124, 2, none⟩ (.int .i64 ((rd_T33 t102 x6_2).f2))).setCell ⟨gb124, 3, none⟩ (.int .i64 ((rd_T33 t102 x6_2).f3))).setCell ⟨gb124, 4, none⟩ (.int .i64 ((rd_T33 t102 x6_2).f4)))) := ⟨uB2 HB GE108.out GE124.out⟩
              (try clear HO_4); (try clear HO_5); (try clear HO_109001); (try clear BK108); (try clear BK124); (try clear HB); generalize (((((w46.setCell ⟨gb124, 0, none⟩ (.int .i64 ((rd_T33 t102 x6_2).f0))).setCell ⟨gb124, 1, none⟩ (.int .i64 ((rd_T33 t102 x6_2).f1))).setCell ⟨gb124, 2, none⟩ (.int .i64 ((rd_T33 t102 x6_2).f2))).setCell ⟨gb124, 3, none⟩ (.int .i64 ((rd_T33 t102 x6_2).f3))).setCell ⟨gb124, 4, none⟩ (.int .i64 ((rd_T33 t102 x6_2).f4))) = w49 at n0_ n1_ n2_ n3_ n4_ n5_ ⊢; have HO_4 := n0_; have HO_5 := n1_; have HO_109001 := n2_; have BK108 := n3_; have BK124 := n4_; have HB := n5_; clear n0_ n1_ n2_ n3_ n4_ n5_; replace HO_4 := Aside0.mk (Kd.R_drew HO_4.out); replace HO_5 := Aside0.mk (Kd.R_drew HO_5.out); replace HO_109001 := Aside0.mk (Kd.R_drew HO_109001.out); replace BK108 := Aside0.mk (blk_drew BK108.out); replace BK124 := Aside0.mk (blk_drew BK124.out); replace HB := Aside0.mk (below_drew1 HB.out); have p125 : 0 ≤ (((rd_T33 t102 x6_2).f0) : Int) := ua; have q125 : ((rd_T33 t102 x6_2).f0) < (t105.length : Int) := ua; obtain ⟨ad125, e125, hx125_0⟩ := Kd.at_int (Kd.R_reads' HO_4.out).2.2 ((rd_T33 t102 x6_2).f0) p125 q125
              cases e125
              replace p125 := eq_true p125; replace q125 := eq_true q125; have p126 : 0 ≤ (((rd_T33 t102 x6_2).f1) : Int) := ua; have q126 : ((rd_T33 t102 x6_2).f1) < (t105.length : Int) := ua; obtain ⟨ad126, e126, hx126_0⟩ := Kd.at_int (Kd.R_reads' HO_4.out).2.2 ((rd_T33 t102 x6_2).f1) p126 q126; obtain rfl : ad125 = ad126 := (by injection e126)
              replace p126 := eq_true p126; replace q126 := eq_true q126; refine start_ (n := 25) (S := fun w' => w'.cell? ⟨gb124, 0, none⟩ = some (.int .i64 ((rd_T33 t102 x6_2).f0)) ∧ w'.cell? ⟨gb124, 1, none⟩ = some (.int .i64 ((rd_T33 t102 x6_2).f1)) ∧ w'.cell? ⟨gb124, 2, none⟩ = some (.int .i64 ((rd_T33 t102 x6_2).f2)) ∧ w'.cell? ⟨gb124, 3, none⟩ = some (.int .i64 ((rd_T33 t102 x6_2).f3)) ∧ w'.cell? ⟨gb124, 4, none⟩ = some (.int .i64 ((rd_T33 t102 x6_2).f4)) ∧ w'.cell? (ad125.add (((rd_T33 t102 x6_2).f0)).toNat) = some (.int .i64 (rd t105 ((rd_T33 t102 x6_2).f0))) ∧ w'.cell? (ad125.add (((rd_T33 t102 x6_2).f1)).toNat) = some (.int .i64 (rd t105 ((rd_T33 t102 x6_2).f1)))) (ds := []) (zt 25 0) (by kernel_rfl) rfl (by kernel_rfl) (b5x BK124 ⟨hx125_0, hx126_0⟩) (fun hHeld => ?_); refine with_tabW laws_FnPartEdges.tab11 laws_FnPartEdges.bits11 (fun HT_ HW_ => ?_); generalize w49.drew = w50 at HO_4 HO_5 HO_109001 BK108 BK124 HB hx125_0 hx126_0 hHeld ⊢; refine qz HT_ 0 ?_; refine qz HT_ 1 ?_; refine qz HT_ 5 ?_; refine qz HT_ 6 ?_; refine qt HT_ HW_ hHeld 2 ?_; refine qz HT_ 3 ?_; refine qt HT_ HW_ hHeld 4 ?_; refine qt HT_ HW_ hHeld 7 ?_; refine qz HT_ 8 ?_; refine qt HT_ HW_ hHeld 9 ?_; refine qz HT_ 10 ?_; refine qz HT_ 11 ?_; refine qn HT_ 12 ?_; refine qn HT_ 13 ?_; refine qn HT_ 14 ?_; refine qn HT_ 15 ?_; refine qn HT_ 16 ?_; refine qn HT_ 17 ?_; refine qn HT_ 18 ?_; refine qn HT_ 19 ?_; refine qn HT_ 20 ?_; refine qn HT_ 21 ?_; refine qn HT_ 22 ?_; refine qn HT_ 23 ?_; refine qz HT_ 24 ?_; refine done_ (done_of HT_.out (by kernel_rfl)) ?_; try go_wp2
              go_roundg k2
              case measure => have := HJ4.out; have := HK2.out; omega
              case rel => exact ⟨(wrap64 (x6_2 + 1)), ue, H', ⟨by have := HJ4.out; have := HK2.out; omega⟩, ⟨ur HO_4⟩, ⟨ur HO_5⟩, ⟨by (with_reducible repeat (first | apply Kd.R_alloc | apply Kd.R_drewN | apply Kd.R_drew)); exact Kd.R_mono HO_109001.out (fun _ hk => trivial)⟩, ⟨ub BK108⟩, ⟨uB2 HB GE108.out GE124.out⟩⟩
             ·
              rw [if_neg c44] at H; obtain ⟨c44b0, c44b1⟩ := dQ c44; replace H := Option.bind_eq_some_iff.mp H; obtain ⟨t127, A510, H⟩ := H; replace H : (if t127 = true then ((laws_wkIn.f k2 t109 ((rd_T33 t102 x6_2).f1)).bind fun t128 => (if t128 = true then (laws_FnPartEdges.l0 k2 t105 t109 (wrap64 (x6_2 + 1)) t101 t102) else (some false))) else (some false)) = some true := H; have A51 := Aside0.mk A510; clear A510; by_cases c52 : t127 = true
              ·
               subst c52; rw [if_pos rfl] at H; replace H := Option.bind_eq_some_iff.mp H; obtain ⟨t128, A530, H⟩ := H; replace H : (if t128 = true then (laws_FnPartEdges.l0 k2 t105 t109 (wrap64 (x6_2 + 1)) t101 t102) else (some false)) = some true := H; have A53 := Aside0.mk A530; clear A530; by_cases c54 : t128 = true
               ·
                subst c54; rw [if_pos rfl] at H; have H' := Aside0.mk H; clear H; obtain ⟨hcz55_0, hcz55_1, hfz55_0, hfz55_1⟩ := bc2 BK108; have p123 : 0 ≤ (x6_2 : Int) := ua; have q123 : x6_2 < (t102.length : Int) := ua; obtain ⟨ad123, e123, hx123_0, hx123_1, hx123_2, hx123_3, hx123_4⟩ := at_T33 (Kd.R_reads' HO_109001.out).2.2 x6_2 p123 q123
                cases e123
                replace p123 := eq_true p123; replace q123 := eq_true q123; try go_wp2_with (first | ((with_reducible refine gate_dst (N := 7) rfl ?_); refine be (cs := #[.int .i64 0, .int .i64 0, .int .i64 0, .int .i64 0, .int .i64 0]) (t := 33) ?_; intro gb124 hg w56 hbox hb; replace HO_4 := Aside0.mk (Kd.R_below (ur HO_4) hb); replace HO_5 := Aside0.mk (Kd.R_below (ur HO_5) hb); replace HO_109001 := Aside0.mk (Kd.R_below (Kd.R_elderB (ur HO_109001) gb124 (Nat.le_of_eq hg.symm)) hb); have BK124 := Aside0.mk (hbox); have GW124 := gz w hg (uB1 HB GE108.out); have GE124 := gz w hg (uB1 HB GE108.out); replace HB := Aside0.mk (below_step (uB1 HB GE108.out) hb); have NB108_124 := gl hg BK108; have NB124_108 := gr hg BK108; replace BK108 := bb BK108 hb; clear hb hbox hg; have hnb57 := NB124_108.out; have hnc57 := NB108_124.out; obtain ⟨hcz58_0, hcz58_1, hcz58_2, hcz58_3, hcz58_4, hfz58_0, hfz58_1, hfz58_2, hfz58_3, hfz58_4⟩ := bc5 BK124))
                have n0_ : Aside0 (Kd.R (Kd.int .i64) 3 (((((w56.setCell ⟨gb124, 0, none⟩ (.int .i64 ((rd_T33 t102 x6_2).f0))).setCell ⟨gb124, 1, none⟩ (.int .i64 ((rd_T33 t102 x6_2).f1))).setCell ⟨gb124, 2, none⟩ (.int .i64 ((rd_T33 t102 x6_2).f2))).setCell ⟨gb124, 3, none⟩ (.int .i64 ((rd_T33 t102 x6_2).f3))).setCell ⟨gb124, 4, none⟩ (.int .i64 ((rd_T33 t102 x6_2).f4))) w.heap.size (fun k_ => some k_ ≠ (v110 : Value).ownBlock) (.slice Ao10 t105.length co10) t105) := ⟨by (with_reducible repeat (first | apply Kd.R_alloc | apply Kd.R_drewN | apply Kd.R_drew)); exact Kd.R_mono (rf5 HO_4 BK124) (fun _ hk => hk.1)⟩
                have n1_ : Aside0 (Kd.R (Kd.int .i64) 3 (((((w56.setCell ⟨gb124, 0, none⟩ (.int .i64 ((rd_T33 t102 x6_2).f0))).setCell ⟨gb124, 1, none⟩ (.int .i64 ((rd_T33 t102 x6_2).f1))).setCell ⟨gb124, 2, none⟩ (.int .i64 ((rd_T33 t102 x6_2).f2))).setCell ⟨gb124, 3, none⟩ (.int .i64 ((rd_T33 t102 x6_2).f3))).setCell ⟨gb124, 4, none⟩ (.int .i64 ((rd_T33 t102 x6_2).f4))) w.heap.size (fun k_ => some k_ ≠ (.slice Ao10 t105.length co10 : Value).ownBlock) v110 t109) := ⟨by (with_reducible repeat (first | apply Kd.R_alloc | apply Kd.R_drewN | apply Kd.R_drew)); exact Kd.R_mono (rf5 HO_5 BK124) (fun _ hk => hk.1)⟩
                have n2_ : Aside0 (Kd.R k33 33 (((((w56.setCell ⟨gb124, 0, none⟩ (.int .i64 ((rd_T33 t102 x6_2).f0))).setCell ⟨gb124, 1, none⟩ (.int .i64 ((rd_T33 t102 x6_2).f1))).setCell ⟨gb124, 2, none⟩ (.int .i64 ((rd_T33 t102 x6_2).f2))).setCell ⟨gb124, 3, none⟩ (.int .i64 ((rd_T33 t102 x6_2).f3))).setCell ⟨gb124, 4, none⟩ (.int .i64 ((rd_T33 t102 x6_2).f4))) w.heap.size (fun k_ => k_ ≠ gb124) (.slice (some ad123) t102.length co9) t102) := ⟨by (with_reducible repeat (first | apply Kd.R_alloc | apply Kd.R_drewN | apply Kd.R_drew)); exact Kd.R_mono (Kd.R_far (p := ⟨gb124, 4, none⟩) (Kd.R_far (p := ⟨gb124, 3, none⟩) (Kd.R_far (p := ⟨gb124, 2, none⟩) (Kd.R_far (p := ⟨gb124, 1, none⟩) (Kd.R_far (p := ⟨gb124, 0, none⟩) (Kd.R_mono HO_109001.out (fun k_ hk => (⟨hk, hk.2⟩ : _ ∧ k_ ≠ gb124))) (fun _ hk => hk.2) (.int .i64 ((rd_T33 t102 x6_2).f0))) (fun _ hk => hk.2) (.int .i64 ((rd_T33 t102 x6_2).f1))) (fun _ hk => hk.2) (.int .i64 ((rd_T33 t102 x6_2).f2))) (fun _ hk => hk.2) (.int .i64 ((rd_T33 t102 x6_2).f3))) (fun _ hk => hk.2) (.int .i64 ((rd_T33 t102 x6_2).f4))) (fun _ hk => hk.1.2)⟩
                have n3_ : Aside0 ((((((w56.setCell ⟨gb124, 0, none⟩ (.int .i64 ((rd_T33 t102 x6_2).f0))).setCell ⟨gb124, 1, none⟩ (.int .i64 ((rd_T33 t102 x6_2).f1))).setCell ⟨gb124, 2, none⟩ (.int .i64 ((rd_T33 t102 x6_2).f2))).setCell ⟨gb124, 3, none⟩ (.int .i64 ((rd_T33 t102 x6_2).f3))).setCell ⟨gb124, 4, none⟩ (.int .i64 ((rd_T33 t102 x6_2).f4))).heap[gb108]? = some (.cells #[.int .i64 t101, .slice (some ad123) t102.length co9] 25 (0, 0))) := ⟨by (with_reducible repeat first | apply zbn | apply zbd | apply zba); refine fa5 ?_ NB108_124; exact ub BK108⟩
                have n4_ : Aside0 ((((((w56.setCell ⟨gb124, 0, none⟩ (.int .i64 ((rd_T33 t102 x6_2).f0))).setCell ⟨gb124, 1, none⟩ (.int .i64 ((rd_T33 t102 x6_2).f1))).setCell ⟨gb124, 2, none⟩ (.int .i64 ((rd_T33 t102 x6_2).f2))).setCell ⟨gb124, 3, none⟩ (.int .i64 ((rd_T33 t102 x6_2).f3))).setCell ⟨gb124, 4, none⟩ (.int .i64 ((rd_T33 t102 x6_2).f4))).heap[gb124]? = some (.cells #[.int .i64 ((rd_T33 t102 x6_2).f0), .int .i64 ((rd_T33 t102 x6_2).f1), .int .i64 ((rd_T33 t102 x6_2).f2), .int .i64 ((rd_T33 t102 x6_2).f3), .int .i64 ((rd_T33 t102 x6_2).f4)] 33 (0, 0))) := ⟨by (with_reducible repeat first | apply zbn | apply zbd | apply zba); refine pu5 (.int .i64 0) (.int .i64 0) (.int .i64 0) (.int .i64 0) (.int .i64 0) ?_; exact ub BK124⟩
                have n5_ : Aside0 (Below w.heap.size w (((((w56.setCell ⟨gb124, 0, none⟩ (.int .i64 ((rd_T33 t102 x6_2).f0))).setCell ⟨gb124, 1, none⟩ (.int .i64 ((rd_T33 t102 x6_2).f1))).setCell ⟨gb124, 2, none⟩ (.int .i64 ((rd_T33 t102 x6_2).f2))).setCell ⟨gb124, 3, none⟩ (.int .i64 ((rd_T33 t102 x6_2).f3))).setCell ⟨gb124, 4, none⟩ (.int .i64 ((rd_T33 t102 x6_2).f4)))) := ⟨uB2 HB GE108.out GE124.out⟩
                (try clear HO_4); (try clear HO_5); (try clear HO_109001); (try clear BK108); (try clear BK124); (try clear HB); generalize (((((w56.setCell ⟨gb124, 0, none⟩ (.int .i64 ((rd_T33 t102 x6_2).f0))).setCell ⟨gb124, 1, none⟩ (.int .i64 ((rd_T33 t102 x6_2).f1))).setCell ⟨gb124, 2, none⟩ (.int .i64 ((rd_T33 t102 x6_2).f2))).setCell ⟨gb124, 3, none⟩ (.int .i64 ((rd_T33 t102 x6_2).f3))).setCell ⟨gb124, 4, none⟩ (.int .i64 ((rd_T33 t102 x6_2).f4))) = w59 at n0_ n1_ n2_ n3_ n4_ n5_ ⊢; have HO_4 := n0_; have HO_5 := n1_; have HO_109001 := n2_; have BK108 := n3_; have BK124 := n4_; have HB := n5_; clear n0_ n1_ n2_ n3_ n4_ n5_; replace HO_4 := Aside0.mk (Kd.R_drew HO_4.out); replace HO_5 := Aside0.mk (Kd.R_drew HO_5.out); replace HO_109001 := Aside0.mk (Kd.R_drew HO_109001.out); replace BK108 := Aside0.mk (blk_drew BK108.out); replace BK124 := Aside0.mk (blk_drew BK124.out); replace HB := Aside0.mk (below_drew1 HB.out); have p125 : 0 ≤ (((rd_T33 t102 x6_2).f0) : Int) := ua; have q125 : ((rd_T33 t102 x6_2).f0) < (t105.length : Int) := ua; obtain ⟨ad125, e125, hx125_0⟩ := Kd.at_int (Kd.R_reads' HO_4.out).2.2 ((rd_T33 t102 x6_2).f0) p125 q125
                cases e125
                replace p125 := eq_true p125; replace q125 := eq_true q125; have p126 : 0 ≤ (((rd_T33 t102 x6_2).f1) : Int) := ua; have q126 : ((rd_T33 t102 x6_2).f1) < (t105.length : Int) := ua; obtain ⟨ad126, e126, hx126_0⟩ := Kd.at_int (Kd.R_reads' HO_4.out).2.2 ((rd_T33 t102 x6_2).f1) p126 q126; obtain rfl : ad125 = ad126 := (by injection e126)
                replace p126 := eq_true p126; replace q126 := eq_true q126; obtain ⟨Ao61, co61, eo61⟩ := Kd.R_slice HO_5.out; (first | subst eo61 | (injection eo61 with f1_ f2_ f3_; have f4_ := f1_.symm; have f5_ := f3_.symm; clear f1_ f2_ f3_; subst f4_; subst f5_)); refine start_ (n := 25) (S := fun w' => w'.cell? ⟨gb124, 0, none⟩ = some (.int .i64 ((rd_T33 t102 x6_2).f0)) ∧ w'.cell? ⟨gb124, 1, none⟩ = some (.int .i64 ((rd_T33 t102 x6_2).f1)) ∧ w'.cell? ⟨gb124, 2, none⟩ = some (.int .i64 ((rd_T33 t102 x6_2).f2)) ∧ w'.cell? ⟨gb124, 3, none⟩ = some (.int .i64 ((rd_T33 t102 x6_2).f3)) ∧ w'.cell? ⟨gb124, 4, none⟩ = some (.int .i64 ((rd_T33 t102 x6_2).f4)) ∧ w'.cell? (ad125.add (((rd_T33 t102 x6_2).f0)).toNat) = some (.int .i64 (rd t105 ((rd_T33 t102 x6_2).f0))) ∧ w'.cell? (ad125.add (((rd_T33 t102 x6_2).f1)).toNat) = some (.int .i64 (rd t105 ((rd_T33 t102 x6_2).f1)))) (ds := []) (zt 25 0) (by kernel_rfl) rfl (by kernel_rfl) (b5x BK124 ⟨hx125_0, hx126_0⟩) (fun hHeld => ?_); refine with_tabW laws_FnPartEdges.tab11 laws_FnPartEdges.bits11 (fun HT_ HW_ => ?_); generalize w59.drew = w60 at HO_4 HO_5 HO_109001 BK108 BK124 HB hx125_0 hx126_0 hHeld ⊢; refine qz HT_ 0 ?_; refine qz HT_ 1 ?_; refine qz HT_ 5 ?_; refine qz HT_ 6 ?_; refine qt HT_ HW_ hHeld 2 ?_; refine qz HT_ 3 ?_; refine qt HT_ HW_ hHeld 4 ?_; refine qt HT_ HW_ hHeld 7 ?_; refine qz HT_ 8 ?_; refine qt HT_ HW_ hHeld 9 ?_; refine qz HT_ 10 ?_; refine qz HT_ 11 ?_; refine qz HT_ 12 ?_; refine qz HT_ 13 ?_; refine qt HT_ HW_ hHeld 14 ?_; refine qo HT_ 15 (fun K hK => ?_); refine goes_ Try.func37 (by kernel_rfl) rfl #[.slice Ao61 t109.length co61, .int .i64 ((rd_T33 t102 x6_2).f0)] (by rfl) rfl rfl ul ?_; with_reducible refine (laws_wkIn.calls k2 _ _ t109 ((rd_T33 t102 x6_2).f0) true _ ?side1 ?side2 A51.out).mono ?_
                (case side1 => exact uD (Kd.R_reads' HO_5.out).2.2); (case side2 => exact (Kd.R_reads' HO_5.out).2.1); rintro e w' ⟨rfl, ⟨nd, rfl⟩⟩; refine ⟨_, rfl, ?_⟩; refine hK.out _ _ (b5x BK124 ⟨hHeld.2.2.2.2.2.1, hHeld.2.2.2.2.2.2⟩) (fun hHeld => ?_); clear hK K; refine nz ?_
                refine qz HT_ 16 ?_; refine qz HT_ 17 ?_; refine qz HT_ 18 ?_; refine qz HT_ 19 ?_; refine qt HT_ HW_ hHeld 20 ?_; refine qo HT_ 21 (fun K hK => ?_); refine goes_ Try.func37 (by kernel_rfl) rfl #[.slice Ao61 t109.length co61, .int .i64 ((rd_T33 t102 x6_2).f1)] (by rfl) rfl rfl ul ?_; with_reducible refine (laws_wkIn.calls k2 _ _ t109 ((rd_T33 t102 x6_2).f1) true _ ?side1 ?side2 A53.out).mono ?_
                (case side1 => exact uD (Kd.R_reads' HO_5.out).2.2); (case side2 => exact (Kd.R_reads' HO_5.out).2.1); rintro e w' ⟨rfl, ⟨nd, rfl⟩⟩; refine ⟨_, rfl, ?_⟩; refine hK.out _ _ (b5x BK124 ⟨hHeld.2.2.2.2.2.1, hHeld.2.2.2.2.2.2⟩) (fun hHeld => ?_); clear hK K; refine nz ?_
                refine qz HT_ 22 ?_; refine qz HT_ 23 ?_; refine qz HT_ 24 ?_; refine done_ (done_of HT_.out (by kernel_rfl)) ?_; try go_wp2
                go_roundg k2
                case measure => have := HJ4.out; have := HK2.out; omega
                case rel => exact ⟨(wrap64 (x6_2 + 1)), ue, H', ⟨by have := HJ4.out; have := HK2.out; omega⟩, ⟨ur HO_4⟩, ⟨ur HO_5⟩, ⟨by (with_reducible repeat (first | apply Kd.R_alloc | apply Kd.R_drewN | apply Kd.R_drew)); exact Kd.R_mono HO_109001.out (fun _ hk => trivial)⟩, ⟨ub BK108⟩, ⟨uB2 HB GE108.out GE124.out⟩⟩
               ·
                replace c54 := Bool.eq_false_iff.mpr c54; subst c54; rw [if_neg (show ¬ (false = true) by decide)] at H; exact absurd H (by simp)
              ·
               replace c52 := Bool.eq_false_iff.mpr c52; subst c52; rw [if_neg (show ¬ (false = true) by decide)] at H; exact absurd H (by simp)
            ·
             rw [if_neg c43] at H; exact absurd H (by simp)
           ·
            rw [if_neg c42] at H; exact absurd H (by simp)
          ·
           rw [if_neg c41] at H; exact absurd H (by simp)
         ·
          rw [if_neg c40] at H; exact absurd H (by simp)
        ·
         rw [if_neg c39] at H; exact absurd H (by simp)
       ·
        rw [if_neg c38] at H; have c38b0 := DL c38; clear c38; have H' := Aside0.mk H; clear H; obtain ⟨hcz62_0, hcz62_1, hfz62_0, hfz62_1⟩ := bc2 BK108; go_wp2; go_loopg [8] k2 (fun kq v8 w' => ∃ (x8_3 : Int), v8 = .int .i64 x8_3 ∧ Aside0 (laws_FnPartEdges.l1 kq t105 t109 x8_3 t101 t102 = some true) ∧ Aside0 (kq ≤ k2) ∧ Aside0 (Kd.R (Kd.int .i64) 3 w' w.heap.size (fun k_ => some k_ ≠ (v110 : Value).ownBlock) (.slice Ao10 t105.length co10) t105) ∧ Aside0 (Kd.R (Kd.int .i64) 3 w' w.heap.size (fun k_ => some k_ ≠ ((.slice Ao10 t105.length co10) : Value).ownBlock) v110 t109) ∧ Aside0 (Kd.R k33 33 w' w.heap.size (fun _ => True) (.slice Ao9 t102.length co9) t102) ∧ Aside0 (w'.heap[gb108]? = some (.cells #[.int .i64 t101, (.slice Ao9 t102.length co9)] 25 (0, 0))) ∧ Aside0 (Below w.heap.size w w'))
        case atStart => exact ⟨(1), ue, H', ⟨Nat.le_refl _⟩, ⟨ur HO_4⟩, ⟨ur HO_5⟩, ⟨ur HO_109001⟩, ⟨ub BK108⟩, ⟨uB1 HB GE108.out⟩⟩
        case round =>
         clear H'; try clear p1
         try clear q1
         try clear hx1
         try clear p2
         try clear c3
         try clear c4
         try clear c5
         try clear p6
         try clear p12
         try clear q12
         try clear hx12
         try clear c37
         try clear c38
         try clear c38b0
         try clear c39
         try clear c39b0
         try clear c40
         try clear c40b0
         try clear c41
         try clear c41b0
         try clear c42
         try clear c42b0
         try clear c43
         try clear c43b0
         try clear c44
         try clear c44b0
         try clear c44b1
         try clear c47
         try clear c52
         try clear c54
         try clear c57
         try clear hcz45_0 hcz45_1
         try clear hcz48_0 hcz48_1 hcz48_2 hcz48_3 hcz48_4
         try clear hcz55_0 hcz55_1
         try clear hcz58_0 hcz58_1 hcz58_2 hcz58_3 hcz58_4
         try clear hcz62_0 hcz62_1
         try clear hfz45_0 hfz45_1
         try clear hfz48_0 hfz48_1 hfz48_2 hfz48_3 hfz48_4
         try clear hfz55_0 hfz55_1
         try clear hfz58_0 hfz58_1 hfz58_2 hfz58_3 hfz58_4
         try clear hfz62_0 hfz62_1
         try clear hx123_0
         try clear hx123_1
         try clear hx123_2
         try clear hx123_3
         try clear hx123_4
         try clear hx125_0
         try clear hx126_0
         try clear p123
         try clear p125
         try clear p126
         try clear q123
         try clear q125
         try clear q126
         obtain ⟨x8_3, rfl, HA, HK3, HO_4, HO_5, HO_109001, BK108, HB⟩ := hrel
         cases gk with
         | zero => exact absurd HA.out (by simp [laws_FnPartEdges.l1])
         | succ k3 =>
          have H := HA.out; clear HA; simp only [laws_FnPartEdges.l1] at H; by_cases c63 : x8_3 < (t109.length : Int)
          ·
           rw [if_pos c63] at H; have c63b0 := dl c63; clear c63; by_cases c64 : 0 ≤ x8_3
           ·
            rw [if_pos c64] at H; have c64b0 := de c64; clear c64; obtain ⟨ji65, hji65⟩ : ∃ j_ : Int, (wrap64 (x8_3 - 1)) = j_ := ⟨_, rfl⟩
            replace H : (if 0 ≤ (ji65) then (if (ji65) < (t109.length : Int) then (if (rd t109 x8_3) ≤ (rd t109 (ji65)) then (some false) else (laws_FnPartEdges.l1 k3 t105 t109 (wrap64 (x8_3 + 1)) t101 t102)) else (none)) else (none)) = some true := by first | (rw [hji65] at H; exact H) | (simp only [hji65] at H ⊢; exact H)
            have hji65w : (IntKind.i64.wrap (x8_3 - 1)) = ji65 := (i64_w _).trans hji65; by_cases c66 : 0 ≤ (ji65)
            ·
             rw [if_pos c66] at H; have c66b0 := de c66; clear c66; by_cases c67 : (ji65) < (t109.length : Int)
             ·
              rw [if_pos c67] at H; have c67b0 := dl c67; clear c67; by_cases c68 : (rd t109 x8_3) ≤ (rd t109 (ji65))
              ·
               rw [if_pos c68] at H; have c68b0 := de c68; clear c68; exact absurd H (by simp)
              ·
               rw [if_neg c68] at H; have c68b0 := DE c68; clear c68; have H' := Aside0.mk H; clear H; obtain ⟨Ao69, co69, eo69⟩ := Kd.R_slice HO_5.out; subst eo69; try go_wp2
               replace HO_4 := Aside0.mk (Kd.R_drew HO_4.out); replace HO_5 := Aside0.mk (Kd.R_drew HO_5.out); replace HO_109001 := Aside0.mk (Kd.R_drew HO_109001.out); replace BK108 := Aside0.mk (blk_drew BK108.out); replace HB := Aside0.mk (below_drew1 HB.out); have p129 : 0 ≤ (x8_3 : Int) := ua; have q129 : x8_3 < (t109.length : Int) := ua; obtain ⟨ad129, e129, hx129_0⟩ := Kd.at_int (Kd.R_reads' HO_5.out).2.2 x8_3 p129 q129
               cases e129
               replace p129 := eq_true p129; replace q129 := eq_true q129; have p130 : 0 ≤ ((ji65) : Int) := ua; have q130 : (ji65) < (t109.length : Int) := ua; obtain ⟨ad130, e130, hx130_0⟩ := Kd.at_int (Kd.R_reads' HO_5.out).2.2 (ji65) p130 q130; obtain rfl : ad129 = ad130 := (by injection e130)
               replace p130 := eq_true p130; replace q130 := eq_true q130; refine start_ (n := 10) (S := fun w' => w'.cell? (ad129.add (x8_3).toNat) = some (.int .i64 (rd t109 x8_3)) ∧ w'.cell? (ad129.add ((ji65)).toNat) = some (.int .i64 (rd t109 (ji65)))) (ds := []) (zt 10 0) (by kernel_rfl) rfl (by kernel_rfl) ⟨hx129_0, hx130_0⟩ (fun hHeld => ?_); refine with_tabW laws_FnPartEdges.tab16 laws_FnPartEdges.bits16 (fun HT_ HW_ => ?_); generalize wr.drew = w70 at HO_4 HO_5 HO_109001 BK108 HB hx129_0 hx130_0 hHeld ⊢; refine qz HT_ 0 ?_; refine qz HT_ 1 ?_; refine qz HT_ 2 ?_; refine qz HT_ 4 ?_; refine qz HT_ 5 ?_; refine qz HT_ 6 ?_; refine qz HT_ 7 ?_; refine qt HT_ HW_ hHeld 3 ?_; refine qt HT_ HW_ hHeld 8 ?_; refine qz HT_ 9 ?_; refine done_ (done_of HT_.out (by kernel_rfl)) ?_; try go_wp2
               go_roundg k3
               case measure => have := HJ4.out; have := HK2.out; have := HK3.out; omega
               case rel => exact ⟨(wrap64 (x8_3 + 1)), ue, H', ⟨by have := HJ4.out; have := HK2.out; have := HK3.out; omega⟩, ⟨ur HO_4⟩, ⟨ur HO_5⟩, ⟨ur HO_109001⟩, ⟨ub BK108⟩, ⟨uB1 HB GE108.out⟩⟩
             ·
              rw [if_neg c67] at H; exact absurd H (by simp)
            ·
             rw [if_neg c66] at H; exact absurd H (by simp)
           ·
            rw [if_neg c64] at H; exact absurd H (by simp)
          ·
           rw [if_neg c63] at H; have c63b0 := DL c63; clear c63; by_cases c71 : 0 ≤ t101
           ·
            rw [if_pos c71] at H; have c71b0 := eq_true c71; have c71b1 := de c71; clear c71; by_cases c72 : (t101 : Int).toNat ≤ 35184372088832
            ·
             rw [if_pos c72] at H; have c72b0 := eq_true c72; have c72b1 := de c72; clear c72; obtain ⟨y131, hy131⟩ : ∃ y_ : List Int, y_ = (List.replicate (t101 : Int).toNat 0) := ⟨_, rfl⟩
             replace H : ((impl_PartEdges.f t101 t102 y131).bind fun t134 => (if (t134.length : Int) = 0 then ((impl_PartCut.f t101 t102 t105).bind fun t137 => (some ((decide ((t109.length : Int) > 0)) == (decide (t137 > 0))))) else (some false))) = some true := by first | (rw [hy131]; with_reducible exact H) | (have H2_ := (Option.bind_some _ _).symm.trans H; rw [hy131]; with_reducible exact H2_) | (have H2_ := (Option.bind_some _ _).symm.trans H; with_reducible exact H2_) | with_reducible exact H | (rw [hy131]; exact H) | exact H
             have Ny131 := Aside0.mk hy131; clear hy131; replace H := Option.bind_eq_some_iff.mp H; obtain ⟨t134, A730, H⟩ := H; replace H : (if (t134.length : Int) = 0 then ((impl_PartCut.f t101 t102 t105).bind fun t137 => (some ((decide ((t109.length : Int) > 0)) == (decide (t137 > 0))))) else (some false)) = some true := H; have A73 := Aside0.mk A730; clear A730; by_cases c74 : (t134.length : Int) = 0
             ·
              rw [if_pos c74] at H; obtain ⟨c74b0, c74b1⟩ := dq c74; clear c74; replace H := Option.bind_eq_some_iff.mp H; obtain ⟨t137, A750, H⟩ := H; replace H : (some ((decide ((t109.length : Int) > 0)) == (decide (t137 > 0)))) = some true := H; have A75 := Aside0.mk A750; clear A750; have HE_ := Aside0.mk (Option.some.inj H); clear H; obtain ⟨Ao76, co76, eo76⟩ := Kd.R_slice HO_5.out; subst eo76; try go_wp2
              replace HO_4 := Aside0.mk (Kd.R_drew HO_4.out); replace HO_5 := Aside0.mk (Kd.R_drew HO_5.out); replace HO_109001 := Aside0.mk (Kd.R_drew HO_109001.out); replace BK108 := Aside0.mk (blk_drew BK108.out); replace HB := Aside0.mk (below_drew1 HB.out); refine start_ (n := 18) (S := fun w' => w'.cell? ⟨gb108, 0, none⟩ = some (.int .i64 t101) ∧ w'.cell? ⟨gb108, 1, none⟩ = some (.slice Ao9 t102.length co9)) (ds := []) (zt 18 0) (by kernel_rfl) rfl (by kernel_rfl) (b2_ BK108) (fun hHeld => ?_); refine with_tabW laws_FnPartEdges.tab18 laws_FnPartEdges.bits18 (fun HT_ HW_ => ?_); generalize wr.drew = w77 at HO_4 HO_5 HO_109001 BK108 HB hHeld ⊢; refine qz HT_ 1 ?_; refine qt HT_ HW_ hHeld 0 ?_; refine qt HT_ HW_ hHeld 2 ?_; refine qo HT_ 3 (fun K hK => ?_); refine Kd.R_make_step (Kd.int .i64) _ 3 (by rfl) (N := 102) rfl 26 _ _ rfl t101 rfl rfl Try.underlying26 (.int .i64 0) 8 info3 rfl (by decide) (by omega) 0 (ok := fun _ => True) (okp := fun _ => True) rfl (fun _ hk => hk) trivial (ua) (Nat.le_trans (Nat.mul_le_mul_right _ (ua : t101.toNat ≤ 35184372088832)) (by omega)) (Below.refl _ _) (Nat.le_refl _) ?_; intro v132 w78 ho79 hb hg_ hnew_; clear hg_ hnew_; (first | rw [← Ny131.out] at ho79 | (simp only [Int.reduceToNat] at ho79; rw [← Ny131.out] at ho79)); replace HO_109001 := Aside0.mk (Kd.R_below (ur HO_109001) hb); have HO133 := Aside0.mk (Kd.R_lower (Kd.R_new' (Kd.R_new' ho79 (Kd.R_lt (ur HO_4))) (Kd.R_lt (ur HO_5))) (below_size (uB1 HB GE108.out))); replace HO_4 := Aside0.mk (Kd.R_elder' (ur HO_4) (Kd.R_base ho79) hb); replace HO_5 := Aside0.mk (Kd.R_elder' (ur HO_5) (Kd.R_base ho79) hb); replace BK108 := bb BK108 hb; replace HB := Aside0.mk (below_step (uB1 HB GE108.out) hb); clear hb ho79; obtain ⟨Ao80, co80, eo80⟩ := Kd.R_slice HO133.out; (first | subst eo80 | (injection eo80 with f1_ f2_ f3_; have f4_ := f1_.symm; have f5_ := f3_.symm; clear f1_ f2_ f3_; subst f4_; subst f5_)); refine hK.out _ _ (b2_ BK108) (fun hHeld => ?_); clear hK K; refine nz ?_
              refine qo HT_ 4 (fun K hK => ?_); refine goes_ Try.func31 (by kernel_rfl) rfl #[.agg #[.int .i64 t101, .slice Ao9 t102.length co9], .slice Ao80 y131.length co80] (by rfl) rfl rfl ul ?_; with_reducible refine (impl_PartEdges.calls t101 _ _ t102 _ _ y131 t134 _ ?side1 ?side2 ?side3 ?side4 A73.out).mono ?_
              (case side1 => exact uD (Kd.R_reads' HO_109001.out).2.2); (case side2 => exact (Kd.R_reads' HO_109001.out).2.1); (case side3 => exact uD (Kd.R_reads' HO133.out).2.2); (case side4 => exact (Kd.R_reads' HO133.out).2.1); rintro e w81 ⟨v135, rfl, ho0, hb⟩; refine ⟨_, rfl, ?_⟩; replace HO_109001 := Aside0.mk (Kd.R_below (ur HO_109001) hb); have HO136 := Aside0.mk (Kd.R_lower (Kd.R_new' (Kd.R_new' (Kd.R_new' ho0 (Kd.R_lt (ur HO_4))) (Kd.R_lt (ur HO_5))) (Kd.R_lt (ur HO133))) (below_size (uB1 HB GE108.out))); replace HO_4 := Aside0.mk (Kd.R_elder' (ur HO_4) (Kd.R_base ho0) hb); replace HO_5 := Aside0.mk (Kd.R_elder' (ur HO_5) (Kd.R_base ho0) hb); replace HO133 := Aside0.mk (Kd.R_elder' (ur HO133) (Kd.R_base ho0) hb); replace BK108 := bb BK108 hb; replace HB := Aside0.mk (below_step (uB1 HB GE108.out) hb); (try clear hb); (try clear hb2); (try clear hk); (try clear hi); (try clear ho0); obtain ⟨Ao82, co82, eo82⟩ := Kd.R_slice HO136.out; (first | subst eo82 | (injection eo82 with f1_ f2_ f3_; have f4_ := f1_.symm; have f5_ := f3_.symm; clear f1_ f2_ f3_; subst f4_; subst f5_)); refine hK.out _ _ (b2_ BK108) (fun hHeld => ?_); clear hK K; refine nz ?_
              refine qz HT_ 5 ?_; refine qz HT_ 6 ?_; refine qz HT_ 7 ?_; refine qz HT_ 8 ?_; refine qz HT_ 9 ?_; refine qz HT_ 10 ?_; refine qz HT_ 12 ?_; refine qt HT_ HW_ hHeld 11 ?_; refine qo HT_ 13 (fun K hK => ?_); refine goes_ Try.func22 (by kernel_rfl) rfl #[.agg #[.int .i64 t101, .slice Ao9 t102.length co9], .slice Ao10 t105.length co10] (by rfl) rfl rfl ul ?_; with_reducible refine (impl_PartCut.calls t101 _ _ t102 _ _ t105 t137 _ ?side1 ?side2 ?side3 ?side4 A75.out).mono ?_
              (case side1 => exact uD (Kd.R_reads' HO_109001.out).2.2); (case side2 => exact (Kd.R_reads' HO_109001.out).2.1); (case side3 => exact uD (Kd.R_reads' HO_4.out).2.2); (case side4 => exact (Kd.R_reads' HO_4.out).2.1); rintro e w83 ⟨rfl, hb⟩; refine ⟨_, rfl, ?_⟩; replace HO_4 := Aside0.mk (Kd.R_below (ur HO_4) hb); replace HO_5 := Aside0.mk (Kd.R_below (ur HO_5) hb); replace HO_109001 := Aside0.mk (Kd.R_below (ur HO_109001) hb); replace HO133 := Aside0.mk (Kd.R_below (ur HO133) hb); replace HO136 := Aside0.mk (Kd.R_below (ur HO136) hb); replace BK108 := bb BK108 hb; replace HB := Aside0.mk (below_step (uB1 HB GE108.out) hb); (try clear hb); (try clear hb2); (try clear hk); (try clear hi); refine hK.out _ _ (b2_ BK108) (fun hHeld => ?_); clear hK K; refine nz ?_
              refine qz HT_ 14 ?_; refine qz HT_ 15 ?_; refine qz HT_ 16 ?_; refine qz HT_ 17 ?_; refine done_ (done_of HT_.out (by kernel_rfl)) ?_; try go_wp2
              go_ret; exact ⟨by first | rfl | (simp [errW_none, errW_some] <;> rfl) | (simp [*, errW_none, errW_some] <;> rfl) | exact congrArg (fun b_ => Ending.returned (Value.bool b_)) HE_.out | (have h_ := HE_.out; simp only [gt_iff_lt, Int.natCast_pos] at h_; exact congrArg (fun b_ => Ending.returned (Value.bool b_)) h_), uB1 HB GE108.out⟩
             ·
              rw [if_neg c74] at H; obtain ⟨c74b0, c74b1⟩ := dQ c74; have c74b2 : ¬ (t134 = []) := fun h_ => c74 (by rw [h_]; rfl)
              exact absurd H (by simp)
            ·
             rw [if_neg c72] at H; exact absurd H (by simp)
           ·
            rw [if_neg c71] at H; exact absurd H (by simp)

/-- THE ONE PURE STATEMENT of laws_FnPartEdges: yours. -/
def laws_FnPartEdges.Pure : Prop := ∀ (l0 : List Int), l0.length ≤ maxLen → l0.length * 1 ≤ 140737488351232 → (∀ x ∈ l0, (Lit.int .u8 x).wf = true) → ∃ k, laws_FnPartEdges.f k l0 = some true
theorem laws_FnPartEdges.walk (P : laws_FnPartEdges.Pure) (a0 : Option Addr) (len0 cap0 : Nat) (z0 : List Int) (w : World) (w0 : (a0 = none ∧ len0 = 0 ∧ cap0 = 0 ∧ z0 = []) ∨ ∃ x, a0 = some x ∧ len0 ≤ cap0 ∧ cap0 ≤ maxLen ∧ z0.length = cap0 ∧ (∀ i, i < z0.length → w.cell? (x.add i) = some (.int .u8 (z0.getD i 0))) ∧ ∀ n ∈ z0, (Lit.int .u8 n).wf = true) (y0 : len0 * 1 ≤ 140737488351232) :
  Calls Try.prog 7 #[.slice a0 len0 cap0] w fun e w' => e = .returned (.bool true) ∧ Below w.heap.size w w' := by
 obtain ⟨l0, rfl, hr0, hm0, hw0, hc0⟩ := ReadsInt.ofRowC w0
 obtain ⟨k, h⟩ := P l0 hm0 y0 hw0
 refine (laws_FnPartEdges.calls k _ _ l0 w (Kd.C_of_reads (d := (0 : Int)) (h1 := fun _ => rfl) hr0) hc0 h).mono ?_
 rintro e w' ⟨rfl, hd⟩
 exact ⟨rfl, hd⟩

end Go.Proofs.Ytblpdfgplifccaa.P
