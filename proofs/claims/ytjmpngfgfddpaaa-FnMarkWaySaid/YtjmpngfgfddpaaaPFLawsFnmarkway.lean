-- written for this claim by a program (wip/gen/myprint.py over the print tool). Not trusted: Lean checks it.
import Derived.Test.YtjmpngfgfddpaaaPx0
import Derived.Test.YtjmpngfgfddpaaaHUp
import Derived.Test.YtjmpngfgfddpaaaPFSpecDrawmarkbound
import Derived.Test.YtjmpngfgfddpaaaPFImplMarkbound
import Derived.Test.YtjmpngfgfddpaaaPFSpecMarkbound
namespace Go.Proofs.Ytjmpngfgfddpaaa.P
open Go.RowKit Go.Proofs.YtjmpngfgfddpaaaV.PrintWords Go.Proofs.YtjmpngfgfddpaaaV.PrintLast
set_option linter.unusedVariables false
set_option linter.unusedSimpArgs false

/-! ### laws_FnMarkWay: function 19 -/
mutual
def laws_FnMarkWay.j0 : Nat → List Int → Int → Int → Int → Bool → Int → List (S33) → Option (Bool)
 | 0, _, _, _, _, _, _, _ => none
 | k + 1, x4, x5, x6, x7, x35, x111000, x111001 => if x35 = true then ((spec_MarkBound.f k x111000 x111001 x4 x5 x6).bind fun t113 => (some (x7 == t113))) else (laws_FnMarkWay.l0 k x4 x6 0 x111000 x111001)
def laws_FnMarkWay.l0 : Nat → List Int → Int → Int → Int → List (S33) → Option (Bool)
 | 0, _, _, _, _, _ => none
 | k + 1, x4, x6, x8, x111000, x111001 => if x8 < (x111001.length : Int) then (if 0 ≤ x8 then ((impl_MarkBound.f k x111000 x111001 x4 ((rd_T33 x111001 x8).f1) x6).bind fun t117 => (if t117 < 99999 then ((impl_MarkBound.f k x111000 x111001 x4 ((rd_T33 x111001 x8).f0) x6).bind fun t118 => ((impl_MarkBound.f k x111000 x111001 x4 ((rd_T33 x111001 x8).f1) x6).bind fun t119 => (if t118 > (wrap64 (((rd_T33 x111001 x8).f2) + t119)) then (some false) else (laws_FnMarkWay.l0 k x4 x6 (wrap64 (x8 + 1)) x111000 x111001)))) else (laws_FnMarkWay.l0 k x4 x6 (wrap64 (x8 + 1)) x111000 x111001))) else (none)) else ((impl_MarkBound.f k x111000 x111001 x4 x6 x6).bind fun t114 => (some (t114 == 0)))
end
def laws_FnMarkWay.f (k : Nat) (l0 : List Int) : Option (Bool) := if (l0.length : Int) > 1048576 then (some true) else ((spec_DrawMarkBound.f k l0).bind fun bt101 => ((impl_MarkBound.f k bt101.1 bt101.2.1 bt101.2.2.1 bt101.2.2.2.1 bt101.2.2.2.2).bind fun t111 => ((spec_MarkBound.f k bt101.1 bt101.2.1 bt101.2.2.1 bt101.2.2.2.1 bt101.2.2.2.2).bind fun t112 => (if t111 = t112 then (laws_FnMarkWay.j0 k bt101.2.2.1 bt101.2.2.2.1 bt101.2.2.2.2 t111 (decide (t111 < 0)) bt101.1 bt101.2.1) else (laws_FnMarkWay.j0 k bt101.2.2.1 bt101.2.2.2.1 bt101.2.2.2.2 t111 true bt101.1 bt101.2.1)))))
def laws_FnMarkWay.T11 : Bool × List (List Nat × List Nat) := (true, [([], []), ([], []), ([], []), ([2], [2]), ([], []), ([0, 1, 3, 4], [0, 1, 3, 4]), ([5], [5]), ([6, 5], [6]), ([7], [7]), ([7], [7]), ([7], [7]), ([10, 7], [7, 10]), ([7], [7]), ([8, 9, 11, 12, 7, 7], [7, 8, 9, 11, 12]), ([7], [7]), ([14, 7], [7, 14]), ([7], [7]), ([7], [7]), ([7], [7]), ([18, 7], [7, 18]), ([7], [7]), ([16, 17, 19, 20, 13, 7], [7, 16, 17, 19, 20]), ([15, 21, 7], [7, 15, 21]), ([13, 22, 7], [7, 13, 22]), ([7, 23], [7, 23])])
def laws_FnMarkWay.B11 : List Nat := [0, 0, 0, 4, 0, 31, 63, 127, 255, 255, 255, 1279, 255, 8191, 255, 16639, 255, 255, 255, 262399, 255, 2047999, 4194303, 8388607, 16777215]
theorem laws_FnMarkWay.tab11 : rtab .any (opsOf Try.f19 11) = laws_FnMarkWay.T11 := by kernel_rfl
theorem laws_FnMarkWay.bits11 : waitsOk laws_FnMarkWay.T11.2 laws_FnMarkWay.B11 = true := by kernel_rfl
set_option maxHeartbeats 8000000 in
set_option maxRecDepth 100000 in
theorem laws_FnMarkWay.calls (k : Nat) (A0 : Option Addr) (c0 : Nat) (l0 : List Int) (w : World) (hr0 : Kd.C (Kd.int .u8) w A0 l0.length l0) (hc0 : l0.length ≤ c0) (h : laws_FnMarkWay.f k l0 = some true) :
  Calls Try.prog 19 #[.slice A0 l0.length c0] w fun e w' => e = .returned (.bool true) ∧ Below w.heap.size w w' := by
 have hu25 := Try.underlying25
 have hu33 := Try.underlying33
 have HR0 := Aside0.mk hr0
 have HC0 := Aside0.mk hc0
 clear hr0 hc0
 have HB := Aside0.mk (Below.refl w.heap.size w)
 have H : (if (l0.length : Int) > 1048576 then (some true) else ((spec_DrawMarkBound.f k l0).bind fun bt101 => ((impl_MarkBound.f k bt101.1 bt101.2.1 bt101.2.2.1 bt101.2.2.2.1 bt101.2.2.2.2).bind fun t111 => ((spec_MarkBound.f k bt101.1 bt101.2.1 bt101.2.2.1 bt101.2.2.2.1 bt101.2.2.2.2).bind fun t112 => (if t111 = t112 then (laws_FnMarkWay.j0 k bt101.2.2.1 bt101.2.2.2.1 bt101.2.2.2.2 t111 (decide (t111 < 0)) bt101.1 bt101.2.1) else (laws_FnMarkWay.j0 k bt101.2.2.1 bt101.2.2.2.1 bt101.2.2.2.2 t111 true bt101.1 bt101.2.1)))))) = some true := h
 clear h
 by_cases c2 : (l0.length : Int) > 1048576
 ·
  rw [if_pos c2] at H
  have c2b0 : decide (1048576 < (l0.length : Int)) = true := decide_eq_true c2
  have c2b1 : decide (1048576 < l0.length) = true := decide_eq_true (by omega)
  clear c2
  clear H
  go_enter Try.func19, Try.ntmps19
  go_wp2
  go_ret
  exact ⟨by first | rfl | (simp [errW_none, errW_some] <;> rfl) | (simp [*, errW_none, errW_some] <;> rfl) | exact congrArg (fun b_ => Ending.returned (Value.bool b_)) HE_.out, by repeat (first | (with_reducible first | exact HB.out | apply below_alloc | apply pw_below_drewN | apply below_drew1) | exact HB.out)⟩
 ·
  rw [if_neg c2] at H
  have c2b0 : decide (1048576 < (l0.length : Int)) = false := decide_eq_false c2
  have c2b1 : decide (1048576 < l0.length) = false := decide_eq_false (by omega)
  clear c2
  replace H := Option.bind_eq_some_iff.mp H
  obtain ⟨⟨t101, t102, t105, t108, t109⟩, A30, H⟩ := H
  replace H : ((impl_MarkBound.f k t101 t102 t105 t108 t109).bind fun t111 => ((spec_MarkBound.f k t101 t102 t105 t108 t109).bind fun t112 => (if t111 = t112 then (laws_FnMarkWay.j0 k t105 t108 t109 t111 (decide (t111 < 0)) t101 t102) else (laws_FnMarkWay.j0 k t105 t108 t109 t111 true t101 t102)))) = some true := H
  have A3 := Aside0.mk A30
  clear A30
  replace H := Option.bind_eq_some_iff.mp H
  obtain ⟨t111, A40, H⟩ := H
  replace H : ((spec_MarkBound.f k t101 t102 t105 t108 t109).bind fun t112 => (if t111 = t112 then (laws_FnMarkWay.j0 k t105 t108 t109 t111 (decide (t111 < 0)) t101 t102) else (laws_FnMarkWay.j0 k t105 t108 t109 t111 true t101 t102))) = some true := H
  have A4 := Aside0.mk A40
  clear A40
  have HC5 := Aside0.mk H
  clear H
  go_enter Try.func19, Try.ntmps19
  go_upto_region 5 with (first | ((with_reducible refine gate_callee (f := 78) rfl ?_); refine goesL_ (some 15) rfl rfl Try.func78 (by kernel_rfl) rfl #[.slice A0 l0.length c0] rfl ul ?_; (with_reducible refine (spec_DrawMarkBound.calls k _ _ l0 t101 t102 t105 t108 t109 _ ?side1 ?side2 A3.out).mono ?_); (case side1 => repeat (first | exact HR0.out | (with_reducible refine Kd.C_alloc ?_ _) | (with_reducible refine Kd.C_drewN ?_ _) | (with_reducible refine Kd.C_drew ?_))); (case side2 => exact HC0.out); rintro e w6 ⟨v103, v106, rfl, ho0, ho1, hb⟩; refine ⟨_, rfl, ?_⟩; have n0_ := Aside0.mk (Kd.R_lower ho0 (below_size (uB0 HB))); have n1_ := Aside0.mk (Kd.R_lower ho1 (below_size (uB0 HB))); have n2_ := Aside0.mk (below_step (uB0 HB) hb); clear HB; have HO104 := n0_; have HO107 := n1_; have HB := n2_; clear n0_ n1_ n2_; (try clear hb); (try clear hb2); (try clear hk); (try clear hi); (try clear ho0); (try clear ho1)) | ((with_reducible refine gate_dst (N := 3) rfl ?_); refine box_event ?hg (N := 3) ?hd (cs := #[.int .i64 0, .slice none 0 0]) (t := 25) ?hr ?_; (case hd => rfl); (case hg => rfl); (case hr => first | (go_simp; done) | (go_simp; rfl)); intro gb110 hg w7 hbox hb; have n0_ := Aside0.mk (Kd.R_below (ur HO104) hb); have n1_ := Aside0.mk (Kd.R_below (ur HO107) hb); have n2_ := Aside0.mk (below_step (uB0 HB) hb); have n3_ := Aside0.mk (hbox); have n4_ := Aside0.mk ((by rw [hg]; exact (below_size (uB0 HB)) : w.heap.size ≤ gb110)); have n5_ := Aside0.mk ((by rw [hg]; exact (below_size (uB0 HB)) : w.heap.size ≤ gb110)); clear HO104; clear HO107; clear HB; have HO104 := n0_; have HO107 := n1_; have HB := n2_; have BK110 := n3_; have GW110 := n4_; have GE110 := n5_; clear n0_ n1_ n2_ n3_ n4_ n5_; clear hb hbox hg; have hcz8_0 : w7.cell? ⟨gb110, 0, none⟩ = some (.int .i64 0) := (blk_cell BK110.out 0).trans rfl; have hcz8_1 : w7.cell? ⟨gb110, 1, none⟩ = some (.slice none 0 0) := (blk_cell BK110.out 1).trans rfl; have hfz8_0 := blk_frozen BK110.out 0; have hfz8_1 := blk_frozen BK110.out 1; obtain ⟨Ao9, co9, eo9⟩ := Kd.R_slice HO104.out; subst eo9; obtain ⟨Ao10, co10, eo10⟩ := Kd.R_slice HO107.out; subst eo10) | ((with_reducible refine gate_callee (f := 79) rfl ?_); refine goesL_ (some 24) rfl rfl Try.func79 (by kernel_rfl) rfl #[.agg #[.int .i64 t101, .slice Ao9 t102.length co9], .slice Ao10 t105.length co10, .int .i64 t108, .int .i64 t109] rfl ul ?_; (with_reducible refine (impl_MarkBound.calls k t101 _ _ t102 _ _ t105 t108 t109 t111 _ ?side1 ?side2 ?side3 ?side4 A4.out).mono ?_); (case side1 => refine (Kd.R_reads' (e := 33) (base := w.heap.size) (ok := fun k_ => True) (n := t102.length) (c := co9) ?_).2.2; exact (by (with_reducible repeat (first | apply Kd.R_alloc | apply Kd.R_drewN | apply Kd.R_drew)); exact (Kd.R_mono (Kd.R_far (p := ⟨gb110, 1, none⟩) (Kd.R_far (p := ⟨gb110, 0, none⟩) (Kd.R_types HO104.out BK110.out (by decide)) (fun _ hk => hk.2) (.int .i64 t101)) (fun _ hk => hk.2) (.slice Ao9 t102.length co9)) (fun _ h_ => h_.1)))); (case side2 => exact (Kd.R_reads' HO104.out).2.1); (case side3 => refine (Kd.R_reads' (e := 3) (base := w.heap.size) (ok := fun k_ => True) (n := t105.length) (c := co10) ?_).2.2; exact (by (with_reducible repeat (first | apply Kd.R_alloc | apply Kd.R_drewN | apply Kd.R_drew)); exact (Kd.R_mono (Kd.R_far (p := ⟨gb110, 1, none⟩) (Kd.R_far (p := ⟨gb110, 0, none⟩) (Kd.R_types HO107.out BK110.out (by decide)) (fun _ hk => hk.2) (.int .i64 t101)) (fun _ hk => hk.2) (.slice Ao9 t102.length co9)) (fun _ h_ => h_.1)))); (case side4 => exact (Kd.R_reads' HO107.out).2.1); rintro e w11 ⟨rfl, hb⟩; refine ⟨_, rfl, ?_⟩; have n0_ := Aside0.mk (Kd.R_below (by (with_reducible repeat (first | apply Kd.R_alloc | apply Kd.R_drewN | apply Kd.R_drew)); exact (Kd.R_mono (Kd.R_far (p := ⟨gb110, 1, none⟩) (Kd.R_far (p := ⟨gb110, 0, none⟩) (Kd.R_types HO104.out BK110.out (by decide)) (fun _ hk => hk.2) (.int .i64 t101)) (fun _ hk => hk.2) (.slice Ao9 t102.length co9)) (fun _ h_ => h_.1))) hb); have n1_ := Aside0.mk (Kd.R_below (by (with_reducible repeat (first | apply Kd.R_alloc | apply Kd.R_drewN | apply Kd.R_drew)); exact (Kd.R_mono (Kd.R_far (p := ⟨gb110, 1, none⟩) (Kd.R_far (p := ⟨gb110, 0, none⟩) (Kd.R_types HO107.out BK110.out (by decide)) (fun _ hk => hk.2) (.int .i64 t101)) (fun _ hk => hk.2) (.slice Ao9 t102.length co9)) (fun _ h_ => h_.1))) hb); have n2_ := Aside0.mk (blk_below (g := gb110) (o := .cells #[.int .i64 t101, .slice Ao9 t102.length co9] 25 (0, 0)) (by (with_reducible repeat (first | refine blk_drewN ?_ _ | refine blk_drew ?_ | refine blk_alloc ?_ _)); refine blk_put (cs := #[.int .i64 t101, .slice none 0 0]) ?_ 1 _ rfl; (with_reducible repeat (first | refine blk_drewN ?_ _ | refine blk_drew ?_ | refine blk_alloc ?_ _)); refine blk_put (cs := #[.int .i64 0, .slice none 0 0]) ?_ 0 _ rfl; exact ub BK110) hb); have n3_ := Aside0.mk (below_step (uB1 HB GE110.out) hb); clear HO104; clear HO107; clear BK110; clear HB; have HO104 := n0_; have HO107 := n1_; have BK110 := n2_; have HB := n3_; clear n0_ n1_ n2_ n3_; (try clear hb); (try clear hb2); (try clear hk); (try clear hi)))
  (try simp only [Act.put, List.setIfInBounds_toArray, List.set_cons_zero, List.set_cons_succ])
  go_cut [35] (fun v35 wc => ∃ (kq : Nat) (x35_4 : Bool), v35 = .bool x35_4 ∧ Aside0 (laws_FnMarkWay.j0 kq t105 t108 t109 t111 x35_4 t101 t102 = some true) ∧ Aside0 (kq ≤ k) ∧ Aside0 (Kd.R (Kd.int .i64) 3 wc w.heap.size (fun _ => True) (.slice Ao10 t105.length co10) t105) ∧ Aside0 (Kd.R k33 33 wc w.heap.size (fun _ => True) (.slice Ao9 t102.length co9) t102) ∧ Aside0 (wc.heap[gb110]? = some (.cells #[.int .i64 t101, (.slice Ao9 t102.length co9)] 25 (0, 0))) ∧ Aside0 (Below w.heap.size w wc))
  case first =>
   have H := HC5.out
   clear HC5
   replace H := Option.bind_eq_some_iff.mp H
   obtain ⟨t112, A120, H⟩ := H
   replace H : (if t111 = t112 then (laws_FnMarkWay.j0 k t105 t108 t109 t111 (decide (t111 < 0)) t101 t102) else (laws_FnMarkWay.j0 k t105 t108 t109 t111 true t101 t102)) = some true := H
   have A12 := Aside0.mk A120
   clear A120
   by_cases c13 : t111 = t112
   ·
    rw [if_pos c13] at H
    have c13b0 : (t111 == t112) = true := beq_iff_eq.mpr c13
    have c13b1 : (t111 != t112) = false := bne_eq_false_iff_eq.mpr c13
    clear c13
    (first | rw [c13b0] | (simp only [i64_w, i32_w]; rw [c13b0]) | skip)
    have H' := Aside0.mk H
    clear H
    have hcz14_0 : w11.cell? ⟨gb110, 0, none⟩ = some (.int .i64 t101) := (blk_cell BK110.out 0).trans rfl
    have hcz14_1 : w11.cell? ⟨gb110, 1, none⟩ = some (.slice Ao9 t102.length co9) := (blk_cell BK110.out 1).trans rfl
    have hfz14_0 := blk_frozen BK110.out 0
    have hfz14_1 := blk_frozen BK110.out 1
    go_wp2_with (first | ((with_reducible refine gate_callee (f := 80) rfl ?_); refine goesL_ (some 30) rfl rfl Try.func80 (by kernel_rfl) rfl #[.agg #[.int .i64 t101, .slice Ao9 t102.length co9], .slice Ao10 t105.length co10, .int .i64 t108, .int .i64 t109] rfl ul ?_; (with_reducible refine (spec_MarkBound.calls k t101 _ _ t102 _ _ t105 t108 t109 t112 _ ?side1 ?side2 ?side3 ?side4 A12.out).mono ?_); (case side1 => repeat (first | exact (Kd.R_reads' HO104.out).2.2 | (with_reducible refine Kd.C_alloc ?_ _) | (with_reducible refine Kd.C_drewN ?_ _) | (with_reducible refine Kd.C_drew ?_))); (case side2 => exact (Kd.R_reads' HO104.out).2.1); (case side3 => repeat (first | exact (Kd.R_reads' HO107.out).2.2 | (with_reducible refine Kd.C_alloc ?_ _) | (with_reducible refine Kd.C_drewN ?_ _) | (with_reducible refine Kd.C_drew ?_))); (case side4 => exact (Kd.R_reads' HO107.out).2.1); rintro e w15 ⟨rfl, hb⟩; refine ⟨_, rfl, ?_⟩; have n0_ := Aside0.mk (Kd.R_below (ur HO104) hb); have n1_ := Aside0.mk (Kd.R_below (ur HO107) hb); have n2_ := Aside0.mk (blk_below (g := gb110) (o := .cells #[.int .i64 t101, .slice Ao9 t102.length co9] 25 (0, 0)) (ub BK110) hb); have n3_ := Aside0.mk (below_step (uB1 HB GE110.out) hb); clear HO104; clear HO107; clear BK110; clear HB; have HO104 := n0_; have HO107 := n1_; have BK110 := n2_; have HB := n3_; clear n0_ n1_ n2_ n3_; (try clear hb); (try clear hb2); (try clear hk); (try clear hi)))
    go_meet
    case rel => exact ⟨_, (decide (t111 < 0)), ue, H', ⟨by first | omega | exact Nat.le_refl _⟩, ⟨ur HO107⟩, ⟨ur HO104⟩, ⟨ub BK110⟩, ⟨uB1 HB GE110.out⟩⟩
   ·
    rw [if_neg c13] at H
    have c13b0 : (t111 == t112) = false := beq_eq_false_iff_ne.mpr c13
    have c13b1 : (t111 != t112) = true := bne_iff_ne.mpr c13
    (first | rw [c13b0] | (simp only [i64_w, i32_w]; rw [c13b0]) | skip)
    have H' := Aside0.mk H
    clear H
    have hcz16_0 : w11.cell? ⟨gb110, 0, none⟩ = some (.int .i64 t101) := (blk_cell BK110.out 0).trans rfl
    have hcz16_1 : w11.cell? ⟨gb110, 1, none⟩ = some (.slice Ao9 t102.length co9) := (blk_cell BK110.out 1).trans rfl
    have hfz16_0 := blk_frozen BK110.out 0
    have hfz16_1 := blk_frozen BK110.out 1
    go_wp2_with (first | ((with_reducible refine gate_callee (f := 80) rfl ?_); refine goesL_ (some 30) rfl rfl Try.func80 (by kernel_rfl) rfl #[.agg #[.int .i64 t101, .slice Ao9 t102.length co9], .slice Ao10 t105.length co10, .int .i64 t108, .int .i64 t109] rfl ul ?_; (with_reducible refine (spec_MarkBound.calls k t101 _ _ t102 _ _ t105 t108 t109 t112 _ ?side1 ?side2 ?side3 ?side4 A12.out).mono ?_); (case side1 => repeat (first | exact (Kd.R_reads' HO104.out).2.2 | (with_reducible refine Kd.C_alloc ?_ _) | (with_reducible refine Kd.C_drewN ?_ _) | (with_reducible refine Kd.C_drew ?_))); (case side2 => exact (Kd.R_reads' HO104.out).2.1); (case side3 => repeat (first | exact (Kd.R_reads' HO107.out).2.2 | (with_reducible refine Kd.C_alloc ?_ _) | (with_reducible refine Kd.C_drewN ?_ _) | (with_reducible refine Kd.C_drew ?_))); (case side4 => exact (Kd.R_reads' HO107.out).2.1); rintro e w17 ⟨rfl, hb⟩; refine ⟨_, rfl, ?_⟩; have n0_ := Aside0.mk (Kd.R_below (ur HO104) hb); have n1_ := Aside0.mk (Kd.R_below (ur HO107) hb); have n2_ := Aside0.mk (blk_below (g := gb110) (o := .cells #[.int .i64 t101, .slice Ao9 t102.length co9] 25 (0, 0)) (ub BK110) hb); have n3_ := Aside0.mk (below_step (uB1 HB GE110.out) hb); clear HO104; clear HO107; clear BK110; clear HB; have HO104 := n0_; have HO107 := n1_; have BK110 := n2_; have HB := n3_; clear n0_ n1_ n2_ n3_; (try clear hb); (try clear hb2); (try clear hk); (try clear hi)))
    go_meet
    case rel => exact ⟨_, (true), ue, H', ⟨by first | omega | exact Nat.le_refl _⟩, ⟨ur HO107⟩, ⟨ur HO104⟩, ⟨ub BK110⟩, ⟨uB1 HB GE110.out⟩⟩
  case rest =>
   clear HC5
   try clear c1
   try clear c2
   try clear c2b0
   try clear c2b1
   try clear p2
   try clear c7
   try clear c8
   try clear c13
   try clear c13b0
   try clear c13b1
   try clear hcz14_0
   try clear hcz14_1
   try clear hcz16_0
   try clear hcz16_1
   try clear hcz8_0
   try clear hcz8_1
   try clear hfz14_0
   try clear hfz14_1
   try clear hfz16_0
   try clear hfz16_1
   try clear hfz8_0
   try clear hfz8_1
   obtain ⟨kq, x35_4, rfl, HA, HJ4, HO_4, HO_111001, BK110, HB⟩ := hcut
   cases kq with
   | zero => exact absurd HA.out (by simp [laws_FnMarkWay.j0])
   | succ kj4 =>
    have H := HA.out
    clear HA
    simp only [laws_FnMarkWay.j0] at H
    by_cases c18 : x35_4 = true
    ·
     subst c18
     have H1 : ((spec_MarkBound.f kj4 t101 t102 t105 t108 t109).bind fun t113 => (some (t111 == t113))) = some true := by rw [if_pos rfl] at H; exact H
     clear H
     have H := H1
     clear H1
     replace H := Option.bind_eq_some_iff.mp H
     obtain ⟨t113, A190, H⟩ := H
     replace H : (some (t111 == t113)) = some true := H
     have A19 := Aside0.mk A190
     clear A190
     have HE_ := Aside0.mk (Option.some.inj H)
     clear H
     have hcz20_0 : wc.cell? ⟨gb110, 0, none⟩ = some (.int .i64 t101) := (blk_cell BK110.out 0).trans rfl
     have hcz20_1 : wc.cell? ⟨gb110, 1, none⟩ = some (.slice Ao9 t102.length co9) := (blk_cell BK110.out 1).trans rfl
     have hfz20_0 := blk_frozen BK110.out 0
     have hfz20_1 := blk_frozen BK110.out 1
     go_wp2_with (first | ((with_reducible refine gate_callee (f := 80) rfl ?_); refine goesL_ (some 41) rfl rfl Try.func80 (by kernel_rfl) rfl #[.agg #[.int .i64 t101, .slice Ao9 t102.length co9], .slice Ao10 t105.length co10, .int .i64 t108, .int .i64 t109] rfl ul ?_; (with_reducible refine (spec_MarkBound.calls kj4 t101 _ _ t102 _ _ t105 t108 t109 t113 _ ?side1 ?side2 ?side3 ?side4 A19.out).mono ?_); (case side1 => repeat (first | exact (Kd.R_reads' HO_111001.out).2.2 | (with_reducible refine Kd.C_alloc ?_ _) | (with_reducible refine Kd.C_drewN ?_ _) | (with_reducible refine Kd.C_drew ?_))); (case side2 => exact (Kd.R_reads' HO_111001.out).2.1); (case side3 => repeat (first | exact (Kd.R_reads' HO_4.out).2.2 | (with_reducible refine Kd.C_alloc ?_ _) | (with_reducible refine Kd.C_drewN ?_ _) | (with_reducible refine Kd.C_drew ?_))); (case side4 => exact (Kd.R_reads' HO_4.out).2.1); rintro e w21 ⟨rfl, hb⟩; refine ⟨_, rfl, ?_⟩; have n0_ := Aside0.mk (Kd.R_below (ur HO_4) hb); have n1_ := Aside0.mk (Kd.R_below (ur HO_111001) hb); have n2_ := Aside0.mk (blk_below (g := gb110) (o := .cells #[.int .i64 t101, .slice Ao9 t102.length co9] 25 (0, 0)) (ub BK110) hb); have n3_ := Aside0.mk (below_step (uB1 HB GE110.out) hb); clear HO_4; clear HO_111001; clear BK110; clear HB; have HO_4 := n0_; have HO_111001 := n1_; have BK110 := n2_; have HB := n3_; clear n0_ n1_ n2_ n3_; (try clear hb); (try clear hb2); (try clear hk); (try clear hi)))
     go_ret
     exact ⟨by first | rfl | (simp [errW_none, errW_some] <;> rfl) | (simp [*, errW_none, errW_some] <;> rfl) | exact congrArg (fun b_ => Ending.returned (Value.bool b_)) HE_.out, by repeat (first | (with_reducible first | exact HB.out | apply below_alloc | apply pw_below_drewN | apply below_drew1 | refine below_set ?_ GE110.out) | exact HB.out)⟩
    ·
     replace c18 := Bool.eq_false_iff.mpr c18
     subst c18
     have H1 : (laws_FnMarkWay.l0 kj4 t105 t109 0 t101 t102) = some true := by rw [if_neg (show ¬ (false = true) by decide)] at H; exact H
     clear H
     have H := H1
     clear H1
     have H' := Aside0.mk H
     clear H
     go_wp2
     go_loopg [8] kj4 (fun kq v8 w' => ∃ (x8_2 : Int), v8 = .int .i64 x8_2 ∧ Aside0 (laws_FnMarkWay.l0 kq t105 t109 x8_2 t101 t102 = some true) ∧ Aside0 (kq ≤ kj4) ∧ Aside0 (Kd.R (Kd.int .i64) 3 w' w.heap.size (fun _ => True) (.slice Ao10 t105.length co10) t105) ∧ Aside0 (Kd.R k33 33 w' w.heap.size (fun _ => True) (.slice Ao9 t102.length co9) t102) ∧ Aside0 (w'.heap[gb110]? = some (.cells #[.int .i64 t101, (.slice Ao9 t102.length co9)] 25 (0, 0))) ∧ Aside0 (Below w.heap.size w w'))
     case atStart => exact ⟨(0), ue, H', ⟨Nat.le_refl _⟩, ⟨ur HO_4⟩, ⟨ur HO_111001⟩, ⟨ub BK110⟩, ⟨uB1 HB GE110.out⟩⟩
     case round =>
      clear H'
      try clear c1
      try clear c2
      try clear c2b0
      try clear c2b1
      try clear p2
      try clear c7
      try clear c8
      try clear c13
      try clear c13b0
      try clear c13b1
      try clear c18
      try clear c19
      try clear hcz14_0
      try clear hcz14_1
      try clear hcz16_0
      try clear hcz16_1
      try clear hcz20_0
      try clear hcz20_1
      try clear hcz8_0
      try clear hcz8_1
      try clear hfz14_0
      try clear hfz14_1
      try clear hfz16_0
      try clear hfz16_1
      try clear hfz20_0
      try clear hfz20_1
      try clear hfz8_0
      try clear hfz8_1
      try clear p2
      obtain ⟨x8_2, rfl, HA, HK2, HO_4, HO_111001, BK110, HB⟩ := hrel
      cases gk with
      | zero => exact absurd HA.out (by simp [laws_FnMarkWay.l0])
      | succ k2 =>
       have H := HA.out
       clear HA
       simp only [laws_FnMarkWay.l0] at H
       by_cases c22 : x8_2 < (t102.length : Int)
       ·
        rw [if_pos c22] at H
        have c22b0 : decide (x8_2 < (t102.length : Int)) = true := decide_eq_true c22
        clear c22
        by_cases c23 : 0 ≤ x8_2
        ·
         rw [if_pos c23] at H
         have c23b0 : decide (0 ≤ x8_2) = true := decide_eq_true c23
         clear c23
         replace H := Option.bind_eq_some_iff.mp H
         obtain ⟨t117, A240, H⟩ := H
         replace H : (if t117 < 99999 then ((impl_MarkBound.f k2 t101 t102 t105 ((rd_T33 t102 x8_2).f0) t109).bind fun t118 => ((impl_MarkBound.f k2 t101 t102 t105 ((rd_T33 t102 x8_2).f1) t109).bind fun t119 => (if t118 > (wrap64 (((rd_T33 t102 x8_2).f2) + t119)) then (some false) else (laws_FnMarkWay.l0 k2 t105 t109 (wrap64 (x8_2 + 1)) t101 t102)))) else (laws_FnMarkWay.l0 k2 t105 t109 (wrap64 (x8_2 + 1)) t101 t102)) = some true := H
         have A24 := Aside0.mk A240
         clear A240
         by_cases c25 : t117 < 99999
         ·
          rw [if_pos c25] at H
          have c25b0 : decide (t117 < 99999) = true := decide_eq_true c25
          clear c25
          replace H := Option.bind_eq_some_iff.mp H
          obtain ⟨t118, A260, H⟩ := H
          replace H : ((impl_MarkBound.f k2 t101 t102 t105 ((rd_T33 t102 x8_2).f1) t109).bind fun t119 => (if t118 > (wrap64 (((rd_T33 t102 x8_2).f2) + t119)) then (some false) else (laws_FnMarkWay.l0 k2 t105 t109 (wrap64 (x8_2 + 1)) t101 t102))) = some true := H
          have A26 := Aside0.mk A260
          clear A260
          replace H := Option.bind_eq_some_iff.mp H
          obtain ⟨t119, A270, H⟩ := H
          replace H : (if t118 > (wrap64 (((rd_T33 t102 x8_2).f2) + t119)) then (some false) else (laws_FnMarkWay.l0 k2 t105 t109 (wrap64 (x8_2 + 1)) t101 t102)) = some true := H
          have A27 := Aside0.mk A270
          clear A270
          by_cases c28 : t118 > (wrap64 (((rd_T33 t102 x8_2).f2) + t119))
          ·
           rw [if_pos c28] at H
           have c28b0 : decide ((wrap64 (((rd_T33 t102 x8_2).f2) + t119)) < t118) = true := decide_eq_true c28
           clear c28
           exact absurd H (by simp)
          ·
           rw [if_neg c28] at H
           have c28b0 : decide ((wrap64 (((rd_T33 t102 x8_2).f2) + t119)) < t118) = false := decide_eq_false c28
           clear c28
           have H' := Aside0.mk H
           clear H
           have hcz29_0 : wr.cell? ⟨gb110, 0, none⟩ = some (.int .i64 t101) := (blk_cell BK110.out 0).trans rfl
           have hcz29_1 : wr.cell? ⟨gb110, 1, none⟩ = some (.slice Ao9 t102.length co9) := (blk_cell BK110.out 1).trans rfl
           have hfz29_0 := blk_frozen BK110.out 0
           have hfz29_1 := blk_frozen BK110.out 1
           have p115 : 0 ≤ (x8_2 : Int) := ua
           have q115 : x8_2 < (t102.length : Int) := ua
           obtain ⟨ad115, e115, hx115_0, hx115_1, hx115_2, hx115_3, hx115_4⟩ := at_T33 (Kd.R_reads' HO_111001.out).2.2 x8_2 p115 q115
           cases e115
           replace p115 := eq_true p115
           replace q115 := eq_true q115
           try go_wp2_with (first | ((with_reducible refine gate_dst (N := 9) rfl ?_); refine box_event ?hg (N := 9) ?hd (cs := #[.int .i64 0, .int .i64 0, .int .i64 0, .int .i64 0, .int .i64 0]) (t := 33) ?hr ?_; (case hd => rfl); (case hg => rfl); (case hr => first | (go_simp; done) | (go_simp; rfl)); intro gb116 hg w30 hbox hb; have n0_ := Aside0.mk (Kd.R_below (ur HO_4) hb); have n1_ := Aside0.mk (Kd.R_below (Kd.R_elderB (ur HO_111001) gb116 (Nat.le_of_eq hg.symm)) hb); have n2_ := Aside0.mk (blk_below (g := gb110) (o := .cells #[.int .i64 t101, .slice (some ad115) t102.length co9] 25 (0, 0)) (ub BK110) hb); have n3_ := Aside0.mk (below_step (uB1 HB GE110.out) hb); have n4_ := Aside0.mk (hbox); have n5_ := Aside0.mk ((by rw [hg]; exact (below_size (uB1 HB GE110.out)) : w.heap.size ≤ gb116)); have n6_ := Aside0.mk ((by rw [hg]; exact (below_size (uB1 HB GE110.out)) : w.heap.size ≤ gb116)); have n7_ := Aside0.mk ((by rw [hg]; exact Nat.ne_of_lt (blk_lt (g := gb110) (o := .cells #[.int .i64 t101, .slice (some ad115) t102.length co9] 25 (0, 0)) (ub BK110)) : gb110 ≠ gb116)); have n8_ := Aside0.mk ((by rw [hg]; exact Nat.ne_of_gt (blk_lt (g := gb110) (o := .cells #[.int .i64 t101, .slice (some ad115) t102.length co9] 25 (0, 0)) (ub BK110)) : gb116 ≠ gb110)); clear HO_4; clear HO_111001; clear BK110; clear HB; have HO_4 := n0_; have HO_111001 := n1_; have BK110 := n2_; have HB := n3_; have BK116 := n4_; have GW116 := n5_; have GE116 := n6_; have NB110_116 := n7_; have NB116_110 := n8_; clear n0_ n1_ n2_ n3_ n4_ n5_ n6_ n7_ n8_; clear hb hbox hg; have hnb31 := NB116_110.out; have hnc31 := NB110_116.out; have hcz32_0 : w30.cell? ⟨gb116, 0, none⟩ = some (.int .i64 0) := (blk_cell BK116.out 0).trans rfl; have hcz32_1 : w30.cell? ⟨gb116, 1, none⟩ = some (.int .i64 0) := (blk_cell BK116.out 1).trans rfl; have hcz32_2 : w30.cell? ⟨gb116, 2, none⟩ = some (.int .i64 0) := (blk_cell BK116.out 2).trans rfl; have hcz32_3 : w30.cell? ⟨gb116, 3, none⟩ = some (.int .i64 0) := (blk_cell BK116.out 3).trans rfl; have hcz32_4 : w30.cell? ⟨gb116, 4, none⟩ = some (.int .i64 0) := (blk_cell BK116.out 4).trans rfl; have hfz32_0 := blk_frozen BK116.out 0; have hfz32_1 := blk_frozen BK116.out 1; have hfz32_2 := blk_frozen BK116.out 2; have hfz32_3 := blk_frozen BK116.out 3; have hfz32_4 := blk_frozen BK116.out 4))
           have n0_ : Aside0 (Kd.R (Kd.int .i64) 3 (((((w30.setCell ⟨gb116, 0, none⟩ (.int .i64 ((rd_T33 t102 x8_2).f0))).setCell ⟨gb116, 1, none⟩ (.int .i64 ((rd_T33 t102 x8_2).f1))).setCell ⟨gb116, 2, none⟩ (.int .i64 ((rd_T33 t102 x8_2).f2))).setCell ⟨gb116, 3, none⟩ (.int .i64 ((rd_T33 t102 x8_2).f3))).setCell ⟨gb116, 4, none⟩ (.int .i64 ((rd_T33 t102 x8_2).f4))) w.heap.size (fun _ => True) (.slice Ao10 t105.length co10) t105) := ⟨by (with_reducible repeat (first | apply Kd.R_alloc | apply Kd.R_drewN | apply Kd.R_drew)); exact Kd.R_mono (Kd.R_far (p := ⟨gb116, 4, none⟩) (Kd.R_far (p := ⟨gb116, 3, none⟩) (Kd.R_far (p := ⟨gb116, 2, none⟩) (Kd.R_far (p := ⟨gb116, 1, none⟩) (Kd.R_far (p := ⟨gb116, 0, none⟩) (Kd.R_types HO_4.out BK116.out (by decide)) (fun _ hk => hk.2) (.int .i64 ((rd_T33 t102 x8_2).f0))) (fun _ hk => hk.2) (.int .i64 ((rd_T33 t102 x8_2).f1))) (fun _ hk => hk.2) (.int .i64 ((rd_T33 t102 x8_2).f2))) (fun _ hk => hk.2) (.int .i64 ((rd_T33 t102 x8_2).f3))) (fun _ hk => hk.2) (.int .i64 ((rd_T33 t102 x8_2).f4))) (fun _ hk => trivial)⟩
           have n1_ : Aside0 (Kd.R k33 33 (((((w30.setCell ⟨gb116, 0, none⟩ (.int .i64 ((rd_T33 t102 x8_2).f0))).setCell ⟨gb116, 1, none⟩ (.int .i64 ((rd_T33 t102 x8_2).f1))).setCell ⟨gb116, 2, none⟩ (.int .i64 ((rd_T33 t102 x8_2).f2))).setCell ⟨gb116, 3, none⟩ (.int .i64 ((rd_T33 t102 x8_2).f3))).setCell ⟨gb116, 4, none⟩ (.int .i64 ((rd_T33 t102 x8_2).f4))) w.heap.size (fun k_ => k_ ≠ gb116) (.slice (some ad115) t102.length co9) t102) := ⟨by (with_reducible repeat (first | apply Kd.R_alloc | apply Kd.R_drewN | apply Kd.R_drew)); exact Kd.R_mono (Kd.R_far (p := ⟨gb116, 4, none⟩) (Kd.R_far (p := ⟨gb116, 3, none⟩) (Kd.R_far (p := ⟨gb116, 2, none⟩) (Kd.R_far (p := ⟨gb116, 1, none⟩) (Kd.R_far (p := ⟨gb116, 0, none⟩) (Kd.R_mono HO_111001.out (fun k_ hk => (⟨hk, hk.2⟩ : _ ∧ k_ ≠ gb116))) (fun _ hk => hk.2) (.int .i64 ((rd_T33 t102 x8_2).f0))) (fun _ hk => hk.2) (.int .i64 ((rd_T33 t102 x8_2).f1))) (fun _ hk => hk.2) (.int .i64 ((rd_T33 t102 x8_2).f2))) (fun _ hk => hk.2) (.int .i64 ((rd_T33 t102 x8_2).f3))) (fun _ hk => hk.2) (.int .i64 ((rd_T33 t102 x8_2).f4))) (fun _ hk => hk.1.2)⟩
           have n2_ : Aside0 ((((((w30.setCell ⟨gb116, 0, none⟩ (.int .i64 ((rd_T33 t102 x8_2).f0))).setCell ⟨gb116, 1, none⟩ (.int .i64 ((rd_T33 t102 x8_2).f1))).setCell ⟨gb116, 2, none⟩ (.int .i64 ((rd_T33 t102 x8_2).f2))).setCell ⟨gb116, 3, none⟩ (.int .i64 ((rd_T33 t102 x8_2).f3))).setCell ⟨gb116, 4, none⟩ (.int .i64 ((rd_T33 t102 x8_2).f4))).heap[gb110]? = some (.cells #[.int .i64 t101, .slice (some ad115) t102.length co9] 25 (0, 0))) := ⟨by (with_reducible repeat (first | refine blk_drewN ?_ _ | refine blk_drew ?_ | refine blk_alloc ?_ _)); refine blk_far ?_ NB110_116.out _; (with_reducible repeat (first | refine blk_drewN ?_ _ | refine blk_drew ?_ | refine blk_alloc ?_ _)); refine blk_far ?_ NB110_116.out _; (with_reducible repeat (first | refine blk_drewN ?_ _ | refine blk_drew ?_ | refine blk_alloc ?_ _)); refine blk_far ?_ NB110_116.out _; (with_reducible repeat (first | refine blk_drewN ?_ _ | refine blk_drew ?_ | refine blk_alloc ?_ _)); refine blk_far ?_ NB110_116.out _; (with_reducible repeat (first | refine blk_drewN ?_ _ | refine blk_drew ?_ | refine blk_alloc ?_ _)); refine blk_far ?_ NB110_116.out _; exact ub BK110⟩
           have n3_ : Aside0 ((((((w30.setCell ⟨gb116, 0, none⟩ (.int .i64 ((rd_T33 t102 x8_2).f0))).setCell ⟨gb116, 1, none⟩ (.int .i64 ((rd_T33 t102 x8_2).f1))).setCell ⟨gb116, 2, none⟩ (.int .i64 ((rd_T33 t102 x8_2).f2))).setCell ⟨gb116, 3, none⟩ (.int .i64 ((rd_T33 t102 x8_2).f3))).setCell ⟨gb116, 4, none⟩ (.int .i64 ((rd_T33 t102 x8_2).f4))).heap[gb116]? = some (.cells #[.int .i64 ((rd_T33 t102 x8_2).f0), .int .i64 ((rd_T33 t102 x8_2).f1), .int .i64 ((rd_T33 t102 x8_2).f2), .int .i64 ((rd_T33 t102 x8_2).f3), .int .i64 ((rd_T33 t102 x8_2).f4)] 33 (0, 0))) := ⟨by (with_reducible repeat (first | refine blk_drewN ?_ _ | refine blk_drew ?_ | refine blk_alloc ?_ _)); refine blk_put (cs := #[.int .i64 ((rd_T33 t102 x8_2).f0), .int .i64 ((rd_T33 t102 x8_2).f1), .int .i64 ((rd_T33 t102 x8_2).f2), .int .i64 ((rd_T33 t102 x8_2).f3), .int .i64 0]) ?_ 4 _ rfl; (with_reducible repeat (first | refine blk_drewN ?_ _ | refine blk_drew ?_ | refine blk_alloc ?_ _)); refine blk_put (cs := #[.int .i64 ((rd_T33 t102 x8_2).f0), .int .i64 ((rd_T33 t102 x8_2).f1), .int .i64 ((rd_T33 t102 x8_2).f2), .int .i64 0, .int .i64 0]) ?_ 3 _ rfl; (with_reducible repeat (first | refine blk_drewN ?_ _ | refine blk_drew ?_ | refine blk_alloc ?_ _)); refine blk_put (cs := #[.int .i64 ((rd_T33 t102 x8_2).f0), .int .i64 ((rd_T33 t102 x8_2).f1), .int .i64 0, .int .i64 0, .int .i64 0]) ?_ 2 _ rfl; (with_reducible repeat (first | refine blk_drewN ?_ _ | refine blk_drew ?_ | refine blk_alloc ?_ _)); refine blk_put (cs := #[.int .i64 ((rd_T33 t102 x8_2).f0), .int .i64 0, .int .i64 0, .int .i64 0, .int .i64 0]) ?_ 1 _ rfl; (with_reducible repeat (first | refine blk_drewN ?_ _ | refine blk_drew ?_ | refine blk_alloc ?_ _)); refine blk_put (cs := #[.int .i64 0, .int .i64 0, .int .i64 0, .int .i64 0, .int .i64 0]) ?_ 0 _ rfl; exact ub BK116⟩
           have n4_ : Aside0 (Below w.heap.size w (((((w30.setCell ⟨gb116, 0, none⟩ (.int .i64 ((rd_T33 t102 x8_2).f0))).setCell ⟨gb116, 1, none⟩ (.int .i64 ((rd_T33 t102 x8_2).f1))).setCell ⟨gb116, 2, none⟩ (.int .i64 ((rd_T33 t102 x8_2).f2))).setCell ⟨gb116, 3, none⟩ (.int .i64 ((rd_T33 t102 x8_2).f3))).setCell ⟨gb116, 4, none⟩ (.int .i64 ((rd_T33 t102 x8_2).f4)))) := ⟨uB2 HB GE110.out GE116.out⟩
           (try clear HO_4)
           (try clear HO_111001)
           (try clear BK110)
           (try clear BK116)
           (try clear HB)
           generalize (((((w30.setCell ⟨gb116, 0, none⟩ (.int .i64 ((rd_T33 t102 x8_2).f0))).setCell ⟨gb116, 1, none⟩ (.int .i64 ((rd_T33 t102 x8_2).f1))).setCell ⟨gb116, 2, none⟩ (.int .i64 ((rd_T33 t102 x8_2).f2))).setCell ⟨gb116, 3, none⟩ (.int .i64 ((rd_T33 t102 x8_2).f3))).setCell ⟨gb116, 4, none⟩ (.int .i64 ((rd_T33 t102 x8_2).f4))) = w33 at n0_ n1_ n2_ n3_ n4_ ⊢
           have HO_4 := n0_
           have HO_111001 := n1_
           have BK110 := n2_
           have BK116 := n3_
           have HB := n4_
           clear n0_ n1_ n2_ n3_ n4_
           have n0_ := Aside0.mk (Kd.R_drew HO_4.out)
           have n1_ := Aside0.mk (Kd.R_drew HO_111001.out)
           have n2_ := Aside0.mk (blk_drew BK110.out)
           have n3_ := Aside0.mk (blk_drew BK116.out)
           have n4_ := Aside0.mk (below_drew1 HB.out)
           clear HO_4
           clear HO_111001
           clear BK110
           clear BK116
           clear HB
           have HO_4 := n0_
           have HO_111001 := n1_
           have BK110 := n2_
           have BK116 := n3_
           have HB := n4_
           clear n0_ n1_ n2_ n3_ n4_
           refine start_ (n := 25) (S := fun w' => w'.cell? ⟨gb110, 0, none⟩ = some (.int .i64 t101) ∧ w'.cell? ⟨gb110, 1, none⟩ = some (.slice (some ad115) t102.length co9) ∧ w'.cell? ⟨gb116, 0, none⟩ = some (.int .i64 ((rd_T33 t102 x8_2).f0)) ∧ w'.cell? ⟨gb116, 1, none⟩ = some (.int .i64 ((rd_T33 t102 x8_2).f1)) ∧ w'.cell? ⟨gb116, 2, none⟩ = some (.int .i64 ((rd_T33 t102 x8_2).f2)) ∧ w'.cell? ⟨gb116, 3, none⟩ = some (.int .i64 ((rd_T33 t102 x8_2).f3)) ∧ w'.cell? ⟨gb116, 4, none⟩ = some (.int .i64 ((rd_T33 t102 x8_2).f4))) (ds := []) #[false, false, false, false, false, false, false, false, false, false, false, false, false, false, false, false, false, false, false, false, false, false, false, false, false] (by kernel_rfl) rfl rfl ⟨(blk_cell BK110.out 0).trans rfl, (blk_cell BK110.out 1).trans rfl, (blk_cell BK116.out 0).trans rfl, (blk_cell BK116.out 1).trans rfl, (blk_cell BK116.out 2).trans rfl, (blk_cell BK116.out 3).trans rfl, (blk_cell BK116.out 4).trans rfl⟩ (fun hHeld => ?_); refine with_tabW laws_FnMarkWay.tab11 laws_FnMarkWay.bits11 (fun HT_ HW_ => ?_)
           generalize w33.drew = w34 at HO_4 HO_111001 BK110 BK116 HB hHeld ⊢
           refine pure_ (i := 1) (N := some 56) (v := ?_) (a' := ?_) #[false, true, false, false, false, false, false, false, false, false, false, false, false, false, false, false, false, false, false, false, false, false, false, false, false] rfl rfl (any_of HT_.out (by kernel_rfl)) (fun _ _ _ h => h) (Or.inl ⟨by rfl, ?_⟩) ?_ ?_
           rotate_left
           ·
            intro w'
            go_simp
            with_reducible rfl
           rotate_left
           ·
            simp only [Act.put, List.setIfInBounds_toArray, List.set_cons_zero, List.set_cons_succ, i64_w, i32_w]
            rfl
           refine pure_ (i := 2) (N := some 57) (v := ?_) (a' := ?_) #[false, true, true, false, false, false, false, false, false, false, false, false, false, false, false, false, false, false, false, false, false, false, false, false, false] rfl rfl (any_of HT_.out (by kernel_rfl)) (fun _ _ _ h => h) (Or.inl ⟨by rfl, ?_⟩) ?_ ?_
           rotate_left
           ·
            intro w'
            go_simp
            with_reducible rfl
           rotate_left
           ·
            simp only [Act.put, List.setIfInBounds_toArray, List.set_cons_zero, List.set_cons_succ, i64_w, i32_w]
            rfl
           refine pure_ (i := 4) (N := some 59) (v := ?_) (a' := ?_) #[false, true, true, false, true, false, false, false, false, false, false, false, false, false, false, false, false, false, false, false, false, false, false, false, false] rfl rfl (any_of HT_.out (by kernel_rfl)) (fun _ _ _ h => h) (Or.inl ⟨by rfl, ?_⟩) ?_ ?_
           rotate_left
           ·
            intro w'
            go_simp
            with_reducible rfl
           rotate_left
           ·
            simp only [Act.put, List.setIfInBounds_toArray, List.set_cons_zero, List.set_cons_succ, i64_w, i32_w]
            rfl
           refine take_ (i := 0) (N := some 55) (v := ?_) (a' := ?_) #[true, true, true, false, true, false, false, false, false, false, false, false, false, false, false, false, false, false, false, false, false, false, false, false, false] rfl rfl (take_ofW HT_.out HW_.out (by kernel_rfl)) (fun _ _ _ h => h) (Or.inl ⟨by rfl, ?_⟩) hHeld ?_ ?_
           rotate_left
           ·
            rintro w' ⟨s0, s1, s2, s3, s4, s5, s6⟩
            go_simp
            with_reducible rfl
           rotate_left
           ·
            simp only [Act.put, List.setIfInBounds_toArray, List.set_cons_zero, List.set_cons_succ, i64_w, i32_w]
            rfl
           refine take_ (i := 3) (N := some 58) (v := ?_) (a' := ?_) #[true, true, true, true, true, false, false, false, false, false, false, false, false, false, false, false, false, false, false, false, false, false, false, false, false] rfl rfl (take_ofW HT_.out HW_.out (by kernel_rfl)) (fun _ _ _ h => h) (Or.inl ⟨by rfl, ?_⟩) hHeld ?_ ?_
           rotate_left
           ·
            rintro w' ⟨s0, s1, s2, s3, s4, s5, s6⟩
            go_simp
            with_reducible rfl
           rotate_left
           ·
            simp only [Act.put, List.setIfInBounds_toArray, List.set_cons_zero, List.set_cons_succ, i64_w, i32_w]
            rfl
           refine one_ (i := 5) (N := some 60) #[true, true, true, true, true, true, false, false, false, false, false, false, false, false, false, false, false, false, false, false, false, false, false, false, false] rfl rfl (one_of HT_.out (by kernel_rfl)) (by decide) (fun K hK => ?_)
           refine goes_ Try.func79 (by kernel_rfl) rfl #[.agg #[.int .i64 t101, .slice (some ad115) t102.length co9], .slice Ao10 t105.length co10, .int .i64 ((rd_T33 t102 x8_2).f1), .int .i64 t109] (by rfl) rfl rfl ul ?_
           with_reducible refine (impl_MarkBound.calls k2 t101 _ _ t102 _ _ t105 ((rd_T33 t102 x8_2).f1) t109 t117 _ ?side1 ?side2 ?side3 ?side4 A24.out).mono ?_
           (case side1 => repeat (first | exact (Kd.R_reads' HO_111001.out).2.2 | (with_reducible refine Kd.C_alloc ?_ _) | (with_reducible refine Kd.C_drewN ?_ _) | (with_reducible refine Kd.C_drew ?_)))
           (case side2 => exact (Kd.R_reads' HO_111001.out).2.1)
           (case side3 => repeat (first | exact (Kd.R_reads' HO_4.out).2.2 | (with_reducible refine Kd.C_alloc ?_ _) | (with_reducible refine Kd.C_drewN ?_ _) | (with_reducible refine Kd.C_drew ?_)))
           (case side4 => exact (Kd.R_reads' HO_4.out).2.1)
           rintro e w35 ⟨rfl, hb⟩
           refine ⟨_, rfl, ?_⟩
           have n0_ := Aside0.mk (Kd.R_below (ur HO_4) hb)
           have n1_ := Aside0.mk (Kd.R_below (ur HO_111001) hb)
           have n2_ := Aside0.mk (blk_below (g := gb110) (o := .cells #[.int .i64 t101, .slice (some ad115) t102.length co9] 25 (0, 0)) (ub BK110) hb)
           have n3_ := Aside0.mk (blk_below (g := gb116) (o := .cells #[.int .i64 ((rd_T33 t102 x8_2).f0), .int .i64 ((rd_T33 t102 x8_2).f1), .int .i64 ((rd_T33 t102 x8_2).f2), .int .i64 ((rd_T33 t102 x8_2).f3), .int .i64 ((rd_T33 t102 x8_2).f4)] 33 (0, 0)) (ub BK116) hb)
           have n4_ := Aside0.mk (below_step (uB2 HB GE110.out GE116.out) hb)
           clear HO_4
           clear HO_111001
           clear BK110
           clear BK116
           clear HB
           have HO_4 := n0_
           have HO_111001 := n1_
           have BK110 := n2_
           have BK116 := n3_
           have HB := n4_
           clear n0_ n1_ n2_ n3_ n4_
           (try clear hb)
           (try clear hb2)
           (try clear hk)
           (try clear hi)
           refine hK.out _ _ ⟨(blk_cell BK110.out 0).trans rfl, (blk_cell BK110.out 1).trans rfl, (blk_cell BK116.out 0).trans rfl, (blk_cell BK116.out 1).trans rfl, (blk_cell BK116.out 2).trans rfl, (blk_cell BK116.out 3).trans rfl, (blk_cell BK116.out 4).trans rfl⟩ (fun hHeld => ?_)
           clear hK K
           refine norm_ (a' := ?_) ?_ ?_
           rotate_left
           ·
            show Act.put _ (some 60) _ = _
            simp only [Act.put, List.setIfInBounds_toArray, List.set_cons_zero, List.set_cons_succ, i64_w, i32_w]
            rfl
           refine pure_ (i := 6) (N := some 61) (v := ?_) (a' := ?_) #[true, true, true, true, true, true, true, false, false, false, false, false, false, false, false, false, false, false, false, false, false, false, false, false, false] rfl rfl (any_of HT_.out (by kernel_rfl)) (fun _ _ _ h => h) (Or.inl ⟨by rfl, ?_⟩) ?_ ?_
           rotate_left
           ·
            intro w'
            go_simp
            with_reducible rfl
           rotate_left
           ·
            simp only [Act.put, List.setIfInBounds_toArray, List.set_cons_zero, List.set_cons_succ, i64_w, i32_w]
            rfl
           refine pure_ (i := 7) (N := some 62) (v := ?_) (a' := ?_) #[true, true, true, true, true, true, true, true, false, false, false, false, false, false, false, false, false, false, false, false, false, false, false, false, false] rfl rfl (any_of HT_.out (by kernel_rfl)) (fun _ _ _ h => h) (Or.inl ⟨by rfl, ?_⟩) ?_ ?_
           rotate_left
           ·
            intro w'
            go_simp
            with_reducible rfl
           rotate_left
           ·
            simp only [Act.put, List.setIfInBounds_toArray, List.set_cons_zero, List.set_cons_succ, i64_w, i32_w]
            rfl
           refine pure_ (i := 9) (N := some 64) (v := ?_) (a' := ?_) #[true, true, true, true, true, true, true, true, false, true, false, false, false, false, false, false, false, false, false, false, false, false, false, false, false] rfl rfl (any_of HT_.out (by kernel_rfl)) (fun _ _ _ h => h) (Or.inl ⟨by rfl, ?_⟩) ?_ ?_
           rotate_left
           ·
            intro w'
            go_simp
            with_reducible rfl
           rotate_left
           ·
            simp only [Act.put, List.setIfInBounds_toArray, List.set_cons_zero, List.set_cons_succ, i64_w, i32_w]
            rfl
           refine pure_ (i := 10) (N := some 65) (v := ?_) (a' := ?_) #[true, true, true, true, true, true, true, true, false, true, true, false, false, false, false, false, false, false, false, false, false, false, false, false, false] rfl rfl (any_of HT_.out (by kernel_rfl)) (fun _ _ _ h => h) (Or.inl ⟨by rfl, ?_⟩) ?_ ?_
           rotate_left
           ·
            intro w'
            go_simp
            with_reducible rfl
           rotate_left
           ·
            simp only [Act.put, List.setIfInBounds_toArray, List.set_cons_zero, List.set_cons_succ, i64_w, i32_w]
            rfl
           refine pure_ (i := 12) (N := some 67) (v := ?_) (a' := ?_) #[true, true, true, true, true, true, true, true, false, true, true, false, true, false, false, false, false, false, false, false, false, false, false, false, false] rfl rfl (any_of HT_.out (by kernel_rfl)) (fun _ _ _ h => h) (Or.inl ⟨by rfl, ?_⟩) ?_ ?_
           rotate_left
           ·
            intro w'
            go_simp
            with_reducible rfl
           rotate_left
           ·
            simp only [Act.put, List.setIfInBounds_toArray, List.set_cons_zero, List.set_cons_succ, i64_w, i32_w]
            rfl
           refine pure_ (i := 14) (N := some 69) (v := ?_) (a' := ?_) #[true, true, true, true, true, true, true, true, false, true, true, false, true, false, true, false, false, false, false, false, false, false, false, false, false] rfl rfl (any_of HT_.out (by kernel_rfl)) (fun _ _ _ h => h) (Or.inl ⟨by rfl, ?_⟩) ?_ ?_
           rotate_left
           ·
            intro w'
            go_simp
            with_reducible rfl
           rotate_left
           ·
            simp only [Act.put, List.setIfInBounds_toArray, List.set_cons_zero, List.set_cons_succ, i64_w, i32_w]
            rfl
           refine pure_ (i := 17) (N := some 72) (v := ?_) (a' := ?_) #[true, true, true, true, true, true, true, true, false, true, true, false, true, false, true, false, false, true, false, false, false, false, false, false, false] rfl rfl (any_of HT_.out (by kernel_rfl)) (fun _ _ _ h => h) (Or.inl ⟨by rfl, ?_⟩) ?_ ?_
           rotate_left
           ·
            intro w'
            go_simp
            with_reducible rfl
           rotate_left
           ·
            simp only [Act.put, List.setIfInBounds_toArray, List.set_cons_zero, List.set_cons_succ, i64_w, i32_w]
            rfl
           refine pure_ (i := 18) (N := some 73) (v := ?_) (a' := ?_) #[true, true, true, true, true, true, true, true, false, true, true, false, true, false, true, false, false, true, true, false, false, false, false, false, false] rfl rfl (any_of HT_.out (by kernel_rfl)) (fun _ _ _ h => h) (Or.inl ⟨by rfl, ?_⟩) ?_ ?_
           rotate_left
           ·
            intro w'
            go_simp
            with_reducible rfl
           rotate_left
           ·
            simp only [Act.put, List.setIfInBounds_toArray, List.set_cons_zero, List.set_cons_succ, i64_w, i32_w]
            rfl
           refine pure_ (i := 20) (N := some 75) (v := ?_) (a' := ?_) #[true, true, true, true, true, true, true, true, false, true, true, false, true, false, true, false, false, true, true, false, true, false, false, false, false] rfl rfl (any_of HT_.out (by kernel_rfl)) (fun _ _ _ h => h) (Or.inl ⟨by rfl, ?_⟩) ?_ ?_
           rotate_left
           ·
            intro w'
            go_simp
            with_reducible rfl
           rotate_left
           ·
            simp only [Act.put, List.setIfInBounds_toArray, List.set_cons_zero, List.set_cons_succ, i64_w, i32_w]
            rfl
           refine take_ (i := 8) (N := some 63) (v := ?_) (a' := ?_) #[true, true, true, true, true, true, true, true, true, true, true, false, true, false, true, false, false, true, true, false, true, false, false, false, false] rfl rfl (take_ofW HT_.out HW_.out (by kernel_rfl)) (fun _ _ _ h => h) (Or.inl ⟨by rfl, ?_⟩) hHeld ?_ ?_
           rotate_left
           ·
            rintro w' ⟨s0, s1, s2, s3, s4, s5, s6⟩
            go_simp
            with_reducible rfl
           rotate_left
           ·
            simp only [Act.put, List.setIfInBounds_toArray, List.set_cons_zero, List.set_cons_succ, i64_w, i32_w]
            rfl
           refine take_ (i := 11) (N := some 66) (v := ?_) (a' := ?_) #[true, true, true, true, true, true, true, true, true, true, true, true, true, false, true, false, false, true, true, false, true, false, false, false, false] rfl rfl (take_ofW HT_.out HW_.out (by kernel_rfl)) (fun _ _ _ h => h) (Or.inl ⟨by rfl, ?_⟩) hHeld ?_ ?_
           rotate_left
           ·
            rintro w' ⟨s0, s1, s2, s3, s4, s5, s6⟩
            go_simp
            with_reducible rfl
           rotate_left
           ·
            simp only [Act.put, List.setIfInBounds_toArray, List.set_cons_zero, List.set_cons_succ, i64_w, i32_w]
            rfl
           refine take_ (i := 15) (N := some 70) (v := ?_) (a' := ?_) #[true, true, true, true, true, true, true, true, true, true, true, true, true, false, true, true, false, true, true, false, true, false, false, false, false] rfl rfl (take_ofW HT_.out HW_.out (by kernel_rfl)) (fun _ _ _ h => h) (Or.inl ⟨by rfl, ?_⟩) hHeld ?_ ?_
           rotate_left
           ·
            rintro w' ⟨s0, s1, s2, s3, s4, s5, s6⟩
            go_simp
            with_reducible rfl
           rotate_left
           ·
            simp only [Act.put, List.setIfInBounds_toArray, List.set_cons_zero, List.set_cons_succ, i64_w, i32_w]
            rfl
           refine take_ (i := 16) (N := some 71) (v := ?_) (a' := ?_) #[true, true, true, true, true, true, true, true, true, true, true, true, true, false, true, true, true, true, true, false, true, false, false, false, false] rfl rfl (take_ofW HT_.out HW_.out (by kernel_rfl)) (fun _ _ _ h => h) (Or.inl ⟨by rfl, ?_⟩) hHeld ?_ ?_
           rotate_left
           ·
            rintro w' ⟨s0, s1, s2, s3, s4, s5, s6⟩
            go_simp
            with_reducible rfl
           rotate_left
           ·
            simp only [Act.put, List.setIfInBounds_toArray, List.set_cons_zero, List.set_cons_succ, i64_w, i32_w]
            rfl
           refine take_ (i := 19) (N := some 74) (v := ?_) (a' := ?_) #[true, true, true, true, true, true, true, true, true, true, true, true, true, false, true, true, true, true, true, true, true, false, false, false, false] rfl rfl (take_ofW HT_.out HW_.out (by kernel_rfl)) (fun _ _ _ h => h) (Or.inl ⟨by rfl, ?_⟩) hHeld ?_ ?_
           rotate_left
           ·
            rintro w' ⟨s0, s1, s2, s3, s4, s5, s6⟩
            go_simp
            with_reducible rfl
           rotate_left
           ·
            simp only [Act.put, List.setIfInBounds_toArray, List.set_cons_zero, List.set_cons_succ, i64_w, i32_w]
            rfl
           refine one_ (i := 13) (N := some 68) #[true, true, true, true, true, true, true, true, true, true, true, true, true, true, true, true, true, true, true, true, true, false, false, false, false] rfl rfl (one_of HT_.out (by kernel_rfl)) (by decide) (fun K hK => ?_)
           refine goes_ Try.func79 (by kernel_rfl) rfl #[.agg #[.int .i64 t101, .slice (some ad115) t102.length co9], .slice Ao10 t105.length co10, .int .i64 ((rd_T33 t102 x8_2).f0), .int .i64 t109] (by rfl) rfl rfl ul ?_
           with_reducible refine (impl_MarkBound.calls k2 t101 _ _ t102 _ _ t105 ((rd_T33 t102 x8_2).f0) t109 t118 _ ?side1 ?side2 ?side3 ?side4 A26.out).mono ?_
           (case side1 => repeat (first | exact (Kd.R_reads' HO_111001.out).2.2 | (with_reducible refine Kd.C_alloc ?_ _) | (with_reducible refine Kd.C_drewN ?_ _) | (with_reducible refine Kd.C_drew ?_)))
           (case side2 => exact (Kd.R_reads' HO_111001.out).2.1)
           (case side3 => repeat (first | exact (Kd.R_reads' HO_4.out).2.2 | (with_reducible refine Kd.C_alloc ?_ _) | (with_reducible refine Kd.C_drewN ?_ _) | (with_reducible refine Kd.C_drew ?_)))
           (case side4 => exact (Kd.R_reads' HO_4.out).2.1)
           rintro e w36 ⟨rfl, hb⟩
           refine ⟨_, rfl, ?_⟩
           have n0_ := Aside0.mk (Kd.R_below (ur HO_4) hb)
           have n1_ := Aside0.mk (Kd.R_below (ur HO_111001) hb)
           have n2_ := Aside0.mk (blk_below (g := gb110) (o := .cells #[.int .i64 t101, .slice (some ad115) t102.length co9] 25 (0, 0)) (ub BK110) hb)
           have n3_ := Aside0.mk (blk_below (g := gb116) (o := .cells #[.int .i64 ((rd_T33 t102 x8_2).f0), .int .i64 ((rd_T33 t102 x8_2).f1), .int .i64 ((rd_T33 t102 x8_2).f2), .int .i64 ((rd_T33 t102 x8_2).f3), .int .i64 ((rd_T33 t102 x8_2).f4)] 33 (0, 0)) (ub BK116) hb)
           have n4_ := Aside0.mk (below_step (uB2 HB GE110.out GE116.out) hb)
           clear HO_4
           clear HO_111001
           clear BK110
           clear BK116
           clear HB
           have HO_4 := n0_
           have HO_111001 := n1_
           have BK110 := n2_
           have BK116 := n3_
           have HB := n4_
           clear n0_ n1_ n2_ n3_ n4_
           (try clear hb)
           (try clear hb2)
           (try clear hk)
           (try clear hi)
           refine hK.out _ _ ⟨(blk_cell BK110.out 0).trans rfl, (blk_cell BK110.out 1).trans rfl, (blk_cell BK116.out 0).trans rfl, (blk_cell BK116.out 1).trans rfl, (blk_cell BK116.out 2).trans rfl, (blk_cell BK116.out 3).trans rfl, (blk_cell BK116.out 4).trans rfl⟩ (fun hHeld => ?_)
           clear hK K
           refine norm_ (a' := ?_) ?_ ?_
           rotate_left
           ·
            show Act.put _ (some 68) _ = _
            simp only [Act.put, List.setIfInBounds_toArray, List.set_cons_zero, List.set_cons_succ, i64_w, i32_w]
            rfl
           refine one_ (i := 21) (N := some 76) #[true, true, true, true, true, true, true, true, true, true, true, true, true, true, true, true, true, true, true, true, true, true, false, false, false] rfl rfl (one_of HT_.out (by kernel_rfl)) (by decide) (fun K hK => ?_)
           refine goes_ Try.func79 (by kernel_rfl) rfl #[.agg #[.int .i64 t101, .slice (some ad115) t102.length co9], .slice Ao10 t105.length co10, .int .i64 ((rd_T33 t102 x8_2).f1), .int .i64 t109] (by rfl) rfl rfl ul ?_
           with_reducible refine (impl_MarkBound.calls k2 t101 _ _ t102 _ _ t105 ((rd_T33 t102 x8_2).f1) t109 t119 _ ?side1 ?side2 ?side3 ?side4 A27.out).mono ?_
           (case side1 => repeat (first | exact (Kd.R_reads' HO_111001.out).2.2 | (with_reducible refine Kd.C_alloc ?_ _) | (with_reducible refine Kd.C_drewN ?_ _) | (with_reducible refine Kd.C_drew ?_)))
           (case side2 => exact (Kd.R_reads' HO_111001.out).2.1)
           (case side3 => repeat (first | exact (Kd.R_reads' HO_4.out).2.2 | (with_reducible refine Kd.C_alloc ?_ _) | (with_reducible refine Kd.C_drewN ?_ _) | (with_reducible refine Kd.C_drew ?_)))
           (case side4 => exact (Kd.R_reads' HO_4.out).2.1)
           rintro e w37 ⟨rfl, hb⟩
           refine ⟨_, rfl, ?_⟩
           have n0_ := Aside0.mk (Kd.R_below (ur HO_4) hb)
           have n1_ := Aside0.mk (Kd.R_below (ur HO_111001) hb)
           have n2_ := Aside0.mk (blk_below (g := gb110) (o := .cells #[.int .i64 t101, .slice (some ad115) t102.length co9] 25 (0, 0)) (ub BK110) hb)
           have n3_ := Aside0.mk (blk_below (g := gb116) (o := .cells #[.int .i64 ((rd_T33 t102 x8_2).f0), .int .i64 ((rd_T33 t102 x8_2).f1), .int .i64 ((rd_T33 t102 x8_2).f2), .int .i64 ((rd_T33 t102 x8_2).f3), .int .i64 ((rd_T33 t102 x8_2).f4)] 33 (0, 0)) (ub BK116) hb)
           have n4_ := Aside0.mk (below_step (uB2 HB GE110.out GE116.out) hb)
           clear HO_4
           clear HO_111001
           clear BK110
           clear BK116
           clear HB
           have HO_4 := n0_
           have HO_111001 := n1_
           have BK110 := n2_
           have BK116 := n3_
           have HB := n4_
           clear n0_ n1_ n2_ n3_ n4_
           (try clear hb)
           (try clear hb2)
           (try clear hk)
           (try clear hi)
           refine hK.out _ _ ⟨(blk_cell BK110.out 0).trans rfl, (blk_cell BK110.out 1).trans rfl, (blk_cell BK116.out 0).trans rfl, (blk_cell BK116.out 1).trans rfl, (blk_cell BK116.out 2).trans rfl, (blk_cell BK116.out 3).trans rfl, (blk_cell BK116.out 4).trans rfl⟩ (fun hHeld => ?_)
           clear hK K
           refine norm_ (a' := ?_) ?_ ?_
           rotate_left
           ·
            show Act.put _ (some 76) _ = _
            simp only [Act.put, List.setIfInBounds_toArray, List.set_cons_zero, List.set_cons_succ, i64_w, i32_w]
            rfl
           refine pure_ (i := 22) (N := some 77) (v := ?_) (a' := ?_) #[true, true, true, true, true, true, true, true, true, true, true, true, true, true, true, true, true, true, true, true, true, true, true, false, false] rfl rfl (any_of HT_.out (by kernel_rfl)) (fun _ _ _ h => h) (Or.inl ⟨by rfl, ?_⟩) ?_ ?_
           rotate_left
           ·
            intro w'
            go_simp
            with_reducible rfl
           rotate_left
           ·
            simp only [Act.put, List.setIfInBounds_toArray, List.set_cons_zero, List.set_cons_succ, i64_w, i32_w]
            rfl
           refine pure_ (i := 23) (N := some 78) (v := ?_) (a' := ?_) #[true, true, true, true, true, true, true, true, true, true, true, true, true, true, true, true, true, true, true, true, true, true, true, true, false] rfl rfl (any_of HT_.out (by kernel_rfl)) (fun _ _ _ h => h) (Or.inl ⟨by rfl, ?_⟩) ?_ ?_
           rotate_left
           ·
            intro w'
            go_simp
            with_reducible rfl
           rotate_left
           ·
            simp only [Act.put, List.setIfInBounds_toArray, List.set_cons_zero, List.set_cons_succ, i64_w, i32_w]
            rfl
           refine pure_ (i := 24) (N := some 79) (v := ?_) (a' := ?_) #[true, true, true, true, true, true, true, true, true, true, true, true, true, true, true, true, true, true, true, true, true, true, true, true, true] rfl rfl (any_of HT_.out (by kernel_rfl)) (fun _ _ _ h => h) (Or.inl ⟨by rfl, ?_⟩) ?_ ?_
           rotate_left
           ·
            intro w'
            go_simp
            with_reducible rfl
           rotate_left
           ·
            simp only [Act.put, List.setIfInBounds_toArray, List.set_cons_zero, List.set_cons_succ, i64_w, i32_w]
            rfl
           refine done_ (done_of HT_.out (by kernel_rfl)) ?_
           try go_wp2
           go_roundg k2
           case measure => have := HJ4.out; have := HK2.out; omega
           case rel => exact ⟨(wrap64 (x8_2 + 1)), ue, H', ⟨by have := HJ4.out; have := HK2.out; omega⟩, ⟨ur HO_4⟩, ⟨by (with_reducible repeat (first | apply Kd.R_alloc | apply Kd.R_drewN | apply Kd.R_drew)); exact Kd.R_mono HO_111001.out (fun _ hk => trivial)⟩, ⟨ub BK110⟩, ⟨uB2 HB GE110.out GE116.out⟩⟩
         ·
          rw [if_neg c25] at H
          have c25b0 : decide (t117 < 99999) = false := decide_eq_false c25
          clear c25
          have H' := Aside0.mk H
          clear H
          have hcz38_0 : wr.cell? ⟨gb110, 0, none⟩ = some (.int .i64 t101) := (blk_cell BK110.out 0).trans rfl
          have hcz38_1 : wr.cell? ⟨gb110, 1, none⟩ = some (.slice Ao9 t102.length co9) := (blk_cell BK110.out 1).trans rfl
          have hfz38_0 := blk_frozen BK110.out 0
          have hfz38_1 := blk_frozen BK110.out 1
          have p115 : 0 ≤ (x8_2 : Int) := ua
          have q115 : x8_2 < (t102.length : Int) := ua
          obtain ⟨ad115, e115, hx115_0, hx115_1, hx115_2, hx115_3, hx115_4⟩ := at_T33 (Kd.R_reads' HO_111001.out).2.2 x8_2 p115 q115
          cases e115
          replace p115 := eq_true p115
          replace q115 := eq_true q115
          try go_wp2_with (first | ((with_reducible refine gate_dst (N := 9) rfl ?_); refine box_event ?hg (N := 9) ?hd (cs := #[.int .i64 0, .int .i64 0, .int .i64 0, .int .i64 0, .int .i64 0]) (t := 33) ?hr ?_; (case hd => rfl); (case hg => rfl); (case hr => first | (go_simp; done) | (go_simp; rfl)); intro gb116 hg w39 hbox hb; have n0_ := Aside0.mk (Kd.R_below (ur HO_4) hb); have n1_ := Aside0.mk (Kd.R_below (Kd.R_elderB (ur HO_111001) gb116 (Nat.le_of_eq hg.symm)) hb); have n2_ := Aside0.mk (blk_below (g := gb110) (o := .cells #[.int .i64 t101, .slice (some ad115) t102.length co9] 25 (0, 0)) (ub BK110) hb); have n3_ := Aside0.mk (below_step (uB1 HB GE110.out) hb); have n4_ := Aside0.mk (hbox); have n5_ := Aside0.mk ((by rw [hg]; exact (below_size (uB1 HB GE110.out)) : w.heap.size ≤ gb116)); have n6_ := Aside0.mk ((by rw [hg]; exact (below_size (uB1 HB GE110.out)) : w.heap.size ≤ gb116)); have n7_ := Aside0.mk ((by rw [hg]; exact Nat.ne_of_lt (blk_lt (g := gb110) (o := .cells #[.int .i64 t101, .slice (some ad115) t102.length co9] 25 (0, 0)) (ub BK110)) : gb110 ≠ gb116)); have n8_ := Aside0.mk ((by rw [hg]; exact Nat.ne_of_gt (blk_lt (g := gb110) (o := .cells #[.int .i64 t101, .slice (some ad115) t102.length co9] 25 (0, 0)) (ub BK110)) : gb116 ≠ gb110)); clear HO_4; clear HO_111001; clear BK110; clear HB; have HO_4 := n0_; have HO_111001 := n1_; have BK110 := n2_; have HB := n3_; have BK116 := n4_; have GW116 := n5_; have GE116 := n6_; have NB110_116 := n7_; have NB116_110 := n8_; clear n0_ n1_ n2_ n3_ n4_ n5_ n6_ n7_ n8_; clear hb hbox hg; have hnb40 := NB116_110.out; have hnc40 := NB110_116.out; have hcz41_0 : w39.cell? ⟨gb116, 0, none⟩ = some (.int .i64 0) := (blk_cell BK116.out 0).trans rfl; have hcz41_1 : w39.cell? ⟨gb116, 1, none⟩ = some (.int .i64 0) := (blk_cell BK116.out 1).trans rfl; have hcz41_2 : w39.cell? ⟨gb116, 2, none⟩ = some (.int .i64 0) := (blk_cell BK116.out 2).trans rfl; have hcz41_3 : w39.cell? ⟨gb116, 3, none⟩ = some (.int .i64 0) := (blk_cell BK116.out 3).trans rfl; have hcz41_4 : w39.cell? ⟨gb116, 4, none⟩ = some (.int .i64 0) := (blk_cell BK116.out 4).trans rfl; have hfz41_0 := blk_frozen BK116.out 0; have hfz41_1 := blk_frozen BK116.out 1; have hfz41_2 := blk_frozen BK116.out 2; have hfz41_3 := blk_frozen BK116.out 3; have hfz41_4 := blk_frozen BK116.out 4))
          have n0_ : Aside0 (Kd.R (Kd.int .i64) 3 (((((w39.setCell ⟨gb116, 0, none⟩ (.int .i64 ((rd_T33 t102 x8_2).f0))).setCell ⟨gb116, 1, none⟩ (.int .i64 ((rd_T33 t102 x8_2).f1))).setCell ⟨gb116, 2, none⟩ (.int .i64 ((rd_T33 t102 x8_2).f2))).setCell ⟨gb116, 3, none⟩ (.int .i64 ((rd_T33 t102 x8_2).f3))).setCell ⟨gb116, 4, none⟩ (.int .i64 ((rd_T33 t102 x8_2).f4))) w.heap.size (fun _ => True) (.slice Ao10 t105.length co10) t105) := ⟨by (with_reducible repeat (first | apply Kd.R_alloc | apply Kd.R_drewN | apply Kd.R_drew)); exact Kd.R_mono (Kd.R_far (p := ⟨gb116, 4, none⟩) (Kd.R_far (p := ⟨gb116, 3, none⟩) (Kd.R_far (p := ⟨gb116, 2, none⟩) (Kd.R_far (p := ⟨gb116, 1, none⟩) (Kd.R_far (p := ⟨gb116, 0, none⟩) (Kd.R_types HO_4.out BK116.out (by decide)) (fun _ hk => hk.2) (.int .i64 ((rd_T33 t102 x8_2).f0))) (fun _ hk => hk.2) (.int .i64 ((rd_T33 t102 x8_2).f1))) (fun _ hk => hk.2) (.int .i64 ((rd_T33 t102 x8_2).f2))) (fun _ hk => hk.2) (.int .i64 ((rd_T33 t102 x8_2).f3))) (fun _ hk => hk.2) (.int .i64 ((rd_T33 t102 x8_2).f4))) (fun _ hk => trivial)⟩
          have n1_ : Aside0 (Kd.R k33 33 (((((w39.setCell ⟨gb116, 0, none⟩ (.int .i64 ((rd_T33 t102 x8_2).f0))).setCell ⟨gb116, 1, none⟩ (.int .i64 ((rd_T33 t102 x8_2).f1))).setCell ⟨gb116, 2, none⟩ (.int .i64 ((rd_T33 t102 x8_2).f2))).setCell ⟨gb116, 3, none⟩ (.int .i64 ((rd_T33 t102 x8_2).f3))).setCell ⟨gb116, 4, none⟩ (.int .i64 ((rd_T33 t102 x8_2).f4))) w.heap.size (fun k_ => k_ ≠ gb116) (.slice (some ad115) t102.length co9) t102) := ⟨by (with_reducible repeat (first | apply Kd.R_alloc | apply Kd.R_drewN | apply Kd.R_drew)); exact Kd.R_mono (Kd.R_far (p := ⟨gb116, 4, none⟩) (Kd.R_far (p := ⟨gb116, 3, none⟩) (Kd.R_far (p := ⟨gb116, 2, none⟩) (Kd.R_far (p := ⟨gb116, 1, none⟩) (Kd.R_far (p := ⟨gb116, 0, none⟩) (Kd.R_mono HO_111001.out (fun k_ hk => (⟨hk, hk.2⟩ : _ ∧ k_ ≠ gb116))) (fun _ hk => hk.2) (.int .i64 ((rd_T33 t102 x8_2).f0))) (fun _ hk => hk.2) (.int .i64 ((rd_T33 t102 x8_2).f1))) (fun _ hk => hk.2) (.int .i64 ((rd_T33 t102 x8_2).f2))) (fun _ hk => hk.2) (.int .i64 ((rd_T33 t102 x8_2).f3))) (fun _ hk => hk.2) (.int .i64 ((rd_T33 t102 x8_2).f4))) (fun _ hk => hk.1.2)⟩
          have n2_ : Aside0 ((((((w39.setCell ⟨gb116, 0, none⟩ (.int .i64 ((rd_T33 t102 x8_2).f0))).setCell ⟨gb116, 1, none⟩ (.int .i64 ((rd_T33 t102 x8_2).f1))).setCell ⟨gb116, 2, none⟩ (.int .i64 ((rd_T33 t102 x8_2).f2))).setCell ⟨gb116, 3, none⟩ (.int .i64 ((rd_T33 t102 x8_2).f3))).setCell ⟨gb116, 4, none⟩ (.int .i64 ((rd_T33 t102 x8_2).f4))).heap[gb110]? = some (.cells #[.int .i64 t101, .slice (some ad115) t102.length co9] 25 (0, 0))) := ⟨by (with_reducible repeat (first | refine blk_drewN ?_ _ | refine blk_drew ?_ | refine blk_alloc ?_ _)); refine blk_far ?_ NB110_116.out _; (with_reducible repeat (first | refine blk_drewN ?_ _ | refine blk_drew ?_ | refine blk_alloc ?_ _)); refine blk_far ?_ NB110_116.out _; (with_reducible repeat (first | refine blk_drewN ?_ _ | refine blk_drew ?_ | refine blk_alloc ?_ _)); refine blk_far ?_ NB110_116.out _; (with_reducible repeat (first | refine blk_drewN ?_ _ | refine blk_drew ?_ | refine blk_alloc ?_ _)); refine blk_far ?_ NB110_116.out _; (with_reducible repeat (first | refine blk_drewN ?_ _ | refine blk_drew ?_ | refine blk_alloc ?_ _)); refine blk_far ?_ NB110_116.out _; exact ub BK110⟩
          have n3_ : Aside0 ((((((w39.setCell ⟨gb116, 0, none⟩ (.int .i64 ((rd_T33 t102 x8_2).f0))).setCell ⟨gb116, 1, none⟩ (.int .i64 ((rd_T33 t102 x8_2).f1))).setCell ⟨gb116, 2, none⟩ (.int .i64 ((rd_T33 t102 x8_2).f2))).setCell ⟨gb116, 3, none⟩ (.int .i64 ((rd_T33 t102 x8_2).f3))).setCell ⟨gb116, 4, none⟩ (.int .i64 ((rd_T33 t102 x8_2).f4))).heap[gb116]? = some (.cells #[.int .i64 ((rd_T33 t102 x8_2).f0), .int .i64 ((rd_T33 t102 x8_2).f1), .int .i64 ((rd_T33 t102 x8_2).f2), .int .i64 ((rd_T33 t102 x8_2).f3), .int .i64 ((rd_T33 t102 x8_2).f4)] 33 (0, 0))) := ⟨by (with_reducible repeat (first | refine blk_drewN ?_ _ | refine blk_drew ?_ | refine blk_alloc ?_ _)); refine blk_put (cs := #[.int .i64 ((rd_T33 t102 x8_2).f0), .int .i64 ((rd_T33 t102 x8_2).f1), .int .i64 ((rd_T33 t102 x8_2).f2), .int .i64 ((rd_T33 t102 x8_2).f3), .int .i64 0]) ?_ 4 _ rfl; (with_reducible repeat (first | refine blk_drewN ?_ _ | refine blk_drew ?_ | refine blk_alloc ?_ _)); refine blk_put (cs := #[.int .i64 ((rd_T33 t102 x8_2).f0), .int .i64 ((rd_T33 t102 x8_2).f1), .int .i64 ((rd_T33 t102 x8_2).f2), .int .i64 0, .int .i64 0]) ?_ 3 _ rfl; (with_reducible repeat (first | refine blk_drewN ?_ _ | refine blk_drew ?_ | refine blk_alloc ?_ _)); refine blk_put (cs := #[.int .i64 ((rd_T33 t102 x8_2).f0), .int .i64 ((rd_T33 t102 x8_2).f1), .int .i64 0, .int .i64 0, .int .i64 0]) ?_ 2 _ rfl; (with_reducible repeat (first | refine blk_drewN ?_ _ | refine blk_drew ?_ | refine blk_alloc ?_ _)); refine blk_put (cs := #[.int .i64 ((rd_T33 t102 x8_2).f0), .int .i64 0, .int .i64 0, .int .i64 0, .int .i64 0]) ?_ 1 _ rfl; (with_reducible repeat (first | refine blk_drewN ?_ _ | refine blk_drew ?_ | refine blk_alloc ?_ _)); refine blk_put (cs := #[.int .i64 0, .int .i64 0, .int .i64 0, .int .i64 0, .int .i64 0]) ?_ 0 _ rfl; exact ub BK116⟩
          have n4_ : Aside0 (Below w.heap.size w (((((w39.setCell ⟨gb116, 0, none⟩ (.int .i64 ((rd_T33 t102 x8_2).f0))).setCell ⟨gb116, 1, none⟩ (.int .i64 ((rd_T33 t102 x8_2).f1))).setCell ⟨gb116, 2, none⟩ (.int .i64 ((rd_T33 t102 x8_2).f2))).setCell ⟨gb116, 3, none⟩ (.int .i64 ((rd_T33 t102 x8_2).f3))).setCell ⟨gb116, 4, none⟩ (.int .i64 ((rd_T33 t102 x8_2).f4)))) := ⟨uB2 HB GE110.out GE116.out⟩
          (try clear HO_4)
          (try clear HO_111001)
          (try clear BK110)
          (try clear BK116)
          (try clear HB)
          generalize (((((w39.setCell ⟨gb116, 0, none⟩ (.int .i64 ((rd_T33 t102 x8_2).f0))).setCell ⟨gb116, 1, none⟩ (.int .i64 ((rd_T33 t102 x8_2).f1))).setCell ⟨gb116, 2, none⟩ (.int .i64 ((rd_T33 t102 x8_2).f2))).setCell ⟨gb116, 3, none⟩ (.int .i64 ((rd_T33 t102 x8_2).f3))).setCell ⟨gb116, 4, none⟩ (.int .i64 ((rd_T33 t102 x8_2).f4))) = w42 at n0_ n1_ n2_ n3_ n4_ ⊢
          have HO_4 := n0_
          have HO_111001 := n1_
          have BK110 := n2_
          have BK116 := n3_
          have HB := n4_
          clear n0_ n1_ n2_ n3_ n4_
          have n0_ := Aside0.mk (Kd.R_drew HO_4.out)
          have n1_ := Aside0.mk (Kd.R_drew HO_111001.out)
          have n2_ := Aside0.mk (blk_drew BK110.out)
          have n3_ := Aside0.mk (blk_drew BK116.out)
          have n4_ := Aside0.mk (below_drew1 HB.out)
          clear HO_4
          clear HO_111001
          clear BK110
          clear BK116
          clear HB
          have HO_4 := n0_
          have HO_111001 := n1_
          have BK110 := n2_
          have BK116 := n3_
          have HB := n4_
          clear n0_ n1_ n2_ n3_ n4_
          refine start_ (n := 25) (S := fun w' => w'.cell? ⟨gb110, 0, none⟩ = some (.int .i64 t101) ∧ w'.cell? ⟨gb110, 1, none⟩ = some (.slice (some ad115) t102.length co9) ∧ w'.cell? ⟨gb116, 0, none⟩ = some (.int .i64 ((rd_T33 t102 x8_2).f0)) ∧ w'.cell? ⟨gb116, 1, none⟩ = some (.int .i64 ((rd_T33 t102 x8_2).f1)) ∧ w'.cell? ⟨gb116, 2, none⟩ = some (.int .i64 ((rd_T33 t102 x8_2).f2)) ∧ w'.cell? ⟨gb116, 3, none⟩ = some (.int .i64 ((rd_T33 t102 x8_2).f3)) ∧ w'.cell? ⟨gb116, 4, none⟩ = some (.int .i64 ((rd_T33 t102 x8_2).f4))) (ds := []) #[false, false, false, false, false, false, false, false, false, false, false, false, false, false, false, false, false, false, false, false, false, false, false, false, false] (by kernel_rfl) rfl rfl ⟨(blk_cell BK110.out 0).trans rfl, (blk_cell BK110.out 1).trans rfl, (blk_cell BK116.out 0).trans rfl, (blk_cell BK116.out 1).trans rfl, (blk_cell BK116.out 2).trans rfl, (blk_cell BK116.out 3).trans rfl, (blk_cell BK116.out 4).trans rfl⟩ (fun hHeld => ?_); refine with_tabW laws_FnMarkWay.tab11 laws_FnMarkWay.bits11 (fun HT_ HW_ => ?_)
          generalize w42.drew = w43 at HO_4 HO_111001 BK110 BK116 HB hHeld ⊢
          refine pure_ (i := 1) (N := some 56) (v := ?_) (a' := ?_) #[false, true, false, false, false, false, false, false, false, false, false, false, false, false, false, false, false, false, false, false, false, false, false, false, false] rfl rfl (any_of HT_.out (by kernel_rfl)) (fun _ _ _ h => h) (Or.inl ⟨by rfl, ?_⟩) ?_ ?_
          rotate_left
          ·
           intro w'
           go_simp
           with_reducible rfl
          rotate_left
          ·
           simp only [Act.put, List.setIfInBounds_toArray, List.set_cons_zero, List.set_cons_succ, i64_w, i32_w]
           rfl
          refine pure_ (i := 2) (N := some 57) (v := ?_) (a' := ?_) #[false, true, true, false, false, false, false, false, false, false, false, false, false, false, false, false, false, false, false, false, false, false, false, false, false] rfl rfl (any_of HT_.out (by kernel_rfl)) (fun _ _ _ h => h) (Or.inl ⟨by rfl, ?_⟩) ?_ ?_
          rotate_left
          ·
           intro w'
           go_simp
           with_reducible rfl
          rotate_left
          ·
           simp only [Act.put, List.setIfInBounds_toArray, List.set_cons_zero, List.set_cons_succ, i64_w, i32_w]
           rfl
          refine pure_ (i := 4) (N := some 59) (v := ?_) (a' := ?_) #[false, true, true, false, true, false, false, false, false, false, false, false, false, false, false, false, false, false, false, false, false, false, false, false, false] rfl rfl (any_of HT_.out (by kernel_rfl)) (fun _ _ _ h => h) (Or.inl ⟨by rfl, ?_⟩) ?_ ?_
          rotate_left
          ·
           intro w'
           go_simp
           with_reducible rfl
          rotate_left
          ·
           simp only [Act.put, List.setIfInBounds_toArray, List.set_cons_zero, List.set_cons_succ, i64_w, i32_w]
           rfl
          refine take_ (i := 0) (N := some 55) (v := ?_) (a' := ?_) #[true, true, true, false, true, false, false, false, false, false, false, false, false, false, false, false, false, false, false, false, false, false, false, false, false] rfl rfl (take_ofW HT_.out HW_.out (by kernel_rfl)) (fun _ _ _ h => h) (Or.inl ⟨by rfl, ?_⟩) hHeld ?_ ?_
          rotate_left
          ·
           rintro w' ⟨s0, s1, s2, s3, s4, s5, s6⟩
           go_simp
           with_reducible rfl
          rotate_left
          ·
           simp only [Act.put, List.setIfInBounds_toArray, List.set_cons_zero, List.set_cons_succ, i64_w, i32_w]
           rfl
          refine take_ (i := 3) (N := some 58) (v := ?_) (a' := ?_) #[true, true, true, true, true, false, false, false, false, false, false, false, false, false, false, false, false, false, false, false, false, false, false, false, false] rfl rfl (take_ofW HT_.out HW_.out (by kernel_rfl)) (fun _ _ _ h => h) (Or.inl ⟨by rfl, ?_⟩) hHeld ?_ ?_
          rotate_left
          ·
           rintro w' ⟨s0, s1, s2, s3, s4, s5, s6⟩
           go_simp
           with_reducible rfl
          rotate_left
          ·
           simp only [Act.put, List.setIfInBounds_toArray, List.set_cons_zero, List.set_cons_succ, i64_w, i32_w]
           rfl
          refine one_ (i := 5) (N := some 60) #[true, true, true, true, true, true, false, false, false, false, false, false, false, false, false, false, false, false, false, false, false, false, false, false, false] rfl rfl (one_of HT_.out (by kernel_rfl)) (by decide) (fun K hK => ?_)
          refine goes_ Try.func79 (by kernel_rfl) rfl #[.agg #[.int .i64 t101, .slice (some ad115) t102.length co9], .slice Ao10 t105.length co10, .int .i64 ((rd_T33 t102 x8_2).f1), .int .i64 t109] (by rfl) rfl rfl ul ?_
          with_reducible refine (impl_MarkBound.calls k2 t101 _ _ t102 _ _ t105 ((rd_T33 t102 x8_2).f1) t109 t117 _ ?side1 ?side2 ?side3 ?side4 A24.out).mono ?_
          (case side1 => repeat (first | exact (Kd.R_reads' HO_111001.out).2.2 | (with_reducible refine Kd.C_alloc ?_ _) | (with_reducible refine Kd.C_drewN ?_ _) | (with_reducible refine Kd.C_drew ?_)))
          (case side2 => exact (Kd.R_reads' HO_111001.out).2.1)
          (case side3 => repeat (first | exact (Kd.R_reads' HO_4.out).2.2 | (with_reducible refine Kd.C_alloc ?_ _) | (with_reducible refine Kd.C_drewN ?_ _) | (with_reducible refine Kd.C_drew ?_)))
          (case side4 => exact (Kd.R_reads' HO_4.out).2.1)
          rintro e w44 ⟨rfl, hb⟩
          refine ⟨_, rfl, ?_⟩
          have n0_ := Aside0.mk (Kd.R_below (ur HO_4) hb)
          have n1_ := Aside0.mk (Kd.R_below (ur HO_111001) hb)
          have n2_ := Aside0.mk (blk_below (g := gb110) (o := .cells #[.int .i64 t101, .slice (some ad115) t102.length co9] 25 (0, 0)) (ub BK110) hb)
          have n3_ := Aside0.mk (blk_below (g := gb116) (o := .cells #[.int .i64 ((rd_T33 t102 x8_2).f0), .int .i64 ((rd_T33 t102 x8_2).f1), .int .i64 ((rd_T33 t102 x8_2).f2), .int .i64 ((rd_T33 t102 x8_2).f3), .int .i64 ((rd_T33 t102 x8_2).f4)] 33 (0, 0)) (ub BK116) hb)
          have n4_ := Aside0.mk (below_step (uB2 HB GE110.out GE116.out) hb)
          clear HO_4
          clear HO_111001
          clear BK110
          clear BK116
          clear HB
          have HO_4 := n0_
          have HO_111001 := n1_
          have BK110 := n2_
          have BK116 := n3_
          have HB := n4_
          clear n0_ n1_ n2_ n3_ n4_
          (try clear hb)
          (try clear hb2)
          (try clear hk)
          (try clear hi)
          refine hK.out _ _ ⟨(blk_cell BK110.out 0).trans rfl, (blk_cell BK110.out 1).trans rfl, (blk_cell BK116.out 0).trans rfl, (blk_cell BK116.out 1).trans rfl, (blk_cell BK116.out 2).trans rfl, (blk_cell BK116.out 3).trans rfl, (blk_cell BK116.out 4).trans rfl⟩ (fun hHeld => ?_)
          clear hK K
          refine norm_ (a' := ?_) ?_ ?_
          rotate_left
          ·
           show Act.put _ (some 60) _ = _
           simp only [Act.put, List.setIfInBounds_toArray, List.set_cons_zero, List.set_cons_succ, i64_w, i32_w]
           rfl
          refine pure_ (i := 6) (N := some 61) (v := ?_) (a' := ?_) #[true, true, true, true, true, true, true, false, false, false, false, false, false, false, false, false, false, false, false, false, false, false, false, false, false] rfl rfl (any_of HT_.out (by kernel_rfl)) (fun _ _ _ h => h) (Or.inl ⟨by rfl, ?_⟩) ?_ ?_
          rotate_left
          ·
           intro w'
           go_simp
           with_reducible rfl
          rotate_left
          ·
           simp only [Act.put, List.setIfInBounds_toArray, List.set_cons_zero, List.set_cons_succ, i64_w, i32_w]
           rfl
          refine pure_ (i := 7) (N := some 62) (v := ?_) (a' := ?_) #[true, true, true, true, true, true, true, true, false, false, false, false, false, false, false, false, false, false, false, false, false, false, false, false, false] rfl rfl (any_of HT_.out (by kernel_rfl)) (fun _ _ _ h => h) (Or.inl ⟨by rfl, ?_⟩) ?_ ?_
          rotate_left
          ·
           intro w'
           go_simp
           with_reducible rfl
          rotate_left
          ·
           simp only [Act.put, List.setIfInBounds_toArray, List.set_cons_zero, List.set_cons_succ, i64_w, i32_w]
           rfl
          refine pure_ (i := 8) (N := some 63) (v := undef) (a' := ?_) #[true, true, true, true, true, true, true, true, true, false, false, false, false, false, false, false, false, false, false, false, false, false, false, false, false] rfl rfl (any_of HT_.out (by kernel_rfl)) (fun _ _ _ h => h) (Or.inr ⟨by rfl, rfl⟩) ?_ ?_
          rotate_left
          ·
           simp only [Act.put, List.setIfInBounds_toArray, List.set_cons_zero, List.set_cons_succ, i64_w, i32_w]
           rfl
          refine pure_ (i := 9) (N := some 64) (v := undef) (a' := ?_) #[true, true, true, true, true, true, true, true, true, true, false, false, false, false, false, false, false, false, false, false, false, false, false, false, false] rfl rfl (any_of HT_.out (by kernel_rfl)) (fun _ _ _ h => h) (Or.inr ⟨by rfl, rfl⟩) ?_ ?_
          rotate_left
          ·
           simp only [Act.put, List.setIfInBounds_toArray, List.set_cons_zero, List.set_cons_succ, i64_w, i32_w]
           rfl
          refine pure_ (i := 10) (N := some 65) (v := undef) (a' := ?_) #[true, true, true, true, true, true, true, true, true, true, true, false, false, false, false, false, false, false, false, false, false, false, false, false, false] rfl rfl (any_of HT_.out (by kernel_rfl)) (fun _ _ _ h => h) (Or.inr ⟨by rfl, rfl⟩) ?_ ?_
          rotate_left
          ·
           simp only [Act.put, List.setIfInBounds_toArray, List.set_cons_zero, List.set_cons_succ, i64_w, i32_w]
           rfl
          refine pure_ (i := 11) (N := some 66) (v := undef) (a' := ?_) #[true, true, true, true, true, true, true, true, true, true, true, true, false, false, false, false, false, false, false, false, false, false, false, false, false] rfl rfl (any_of HT_.out (by kernel_rfl)) (fun _ _ _ h => h) (Or.inr ⟨by rfl, rfl⟩) ?_ ?_
          rotate_left
          ·
           simp only [Act.put, List.setIfInBounds_toArray, List.set_cons_zero, List.set_cons_succ, i64_w, i32_w]
           rfl
          refine pure_ (i := 12) (N := some 67) (v := undef) (a' := ?_) #[true, true, true, true, true, true, true, true, true, true, true, true, true, false, false, false, false, false, false, false, false, false, false, false, false] rfl rfl (any_of HT_.out (by kernel_rfl)) (fun _ _ _ h => h) (Or.inr ⟨by rfl, rfl⟩) ?_ ?_
          rotate_left
          ·
           simp only [Act.put, List.setIfInBounds_toArray, List.set_cons_zero, List.set_cons_succ, i64_w, i32_w]
           rfl
          refine pure_ (i := 13) (N := some 68) (v := undef) (a' := ?_) #[true, true, true, true, true, true, true, true, true, true, true, true, true, true, false, false, false, false, false, false, false, false, false, false, false] rfl rfl (any_of HT_.out (by kernel_rfl)) (fun _ _ _ h => h) (Or.inr ⟨by rfl, rfl⟩) ?_ ?_
          rotate_left
          ·
           simp only [Act.put, List.setIfInBounds_toArray, List.set_cons_zero, List.set_cons_succ, i64_w, i32_w]
           rfl
          refine pure_ (i := 14) (N := some 69) (v := undef) (a' := ?_) #[true, true, true, true, true, true, true, true, true, true, true, true, true, true, true, false, false, false, false, false, false, false, false, false, false] rfl rfl (any_of HT_.out (by kernel_rfl)) (fun _ _ _ h => h) (Or.inr ⟨by rfl, rfl⟩) ?_ ?_
          rotate_left
          ·
           simp only [Act.put, List.setIfInBounds_toArray, List.set_cons_zero, List.set_cons_succ, i64_w, i32_w]
           rfl
          refine pure_ (i := 15) (N := some 70) (v := undef) (a' := ?_) #[true, true, true, true, true, true, true, true, true, true, true, true, true, true, true, true, false, false, false, false, false, false, false, false, false] rfl rfl (any_of HT_.out (by kernel_rfl)) (fun _ _ _ h => h) (Or.inr ⟨by rfl, rfl⟩) ?_ ?_
          rotate_left
          ·
           simp only [Act.put, List.setIfInBounds_toArray, List.set_cons_zero, List.set_cons_succ, i64_w, i32_w]
           rfl
          refine pure_ (i := 16) (N := some 71) (v := undef) (a' := ?_) #[true, true, true, true, true, true, true, true, true, true, true, true, true, true, true, true, true, false, false, false, false, false, false, false, false] rfl rfl (any_of HT_.out (by kernel_rfl)) (fun _ _ _ h => h) (Or.inr ⟨by rfl, rfl⟩) ?_ ?_
          rotate_left
          ·
           simp only [Act.put, List.setIfInBounds_toArray, List.set_cons_zero, List.set_cons_succ, i64_w, i32_w]
           rfl
          refine pure_ (i := 17) (N := some 72) (v := undef) (a' := ?_) #[true, true, true, true, true, true, true, true, true, true, true, true, true, true, true, true, true, true, false, false, false, false, false, false, false] rfl rfl (any_of HT_.out (by kernel_rfl)) (fun _ _ _ h => h) (Or.inr ⟨by rfl, rfl⟩) ?_ ?_
          rotate_left
          ·
           simp only [Act.put, List.setIfInBounds_toArray, List.set_cons_zero, List.set_cons_succ, i64_w, i32_w]
           rfl
          refine pure_ (i := 18) (N := some 73) (v := undef) (a' := ?_) #[true, true, true, true, true, true, true, true, true, true, true, true, true, true, true, true, true, true, true, false, false, false, false, false, false] rfl rfl (any_of HT_.out (by kernel_rfl)) (fun _ _ _ h => h) (Or.inr ⟨by rfl, rfl⟩) ?_ ?_
          rotate_left
          ·
           simp only [Act.put, List.setIfInBounds_toArray, List.set_cons_zero, List.set_cons_succ, i64_w, i32_w]
           rfl
          refine pure_ (i := 19) (N := some 74) (v := undef) (a' := ?_) #[true, true, true, true, true, true, true, true, true, true, true, true, true, true, true, true, true, true, true, true, false, false, false, false, false] rfl rfl (any_of HT_.out (by kernel_rfl)) (fun _ _ _ h => h) (Or.inr ⟨by rfl, rfl⟩) ?_ ?_
          rotate_left
          ·
           simp only [Act.put, List.setIfInBounds_toArray, List.set_cons_zero, List.set_cons_succ, i64_w, i32_w]
           rfl
          refine pure_ (i := 20) (N := some 75) (v := undef) (a' := ?_) #[true, true, true, true, true, true, true, true, true, true, true, true, true, true, true, true, true, true, true, true, true, false, false, false, false] rfl rfl (any_of HT_.out (by kernel_rfl)) (fun _ _ _ h => h) (Or.inr ⟨by rfl, rfl⟩) ?_ ?_
          rotate_left
          ·
           simp only [Act.put, List.setIfInBounds_toArray, List.set_cons_zero, List.set_cons_succ, i64_w, i32_w]
           rfl
          refine pure_ (i := 21) (N := some 76) (v := undef) (a' := ?_) #[true, true, true, true, true, true, true, true, true, true, true, true, true, true, true, true, true, true, true, true, true, true, false, false, false] rfl rfl (any_of HT_.out (by kernel_rfl)) (fun _ _ _ h => h) (Or.inr ⟨by rfl, rfl⟩) ?_ ?_
          rotate_left
          ·
           simp only [Act.put, List.setIfInBounds_toArray, List.set_cons_zero, List.set_cons_succ, i64_w, i32_w]
           rfl
          refine pure_ (i := 22) (N := some 77) (v := undef) (a' := ?_) #[true, true, true, true, true, true, true, true, true, true, true, true, true, true, true, true, true, true, true, true, true, true, true, false, false] rfl rfl (any_of HT_.out (by kernel_rfl)) (fun _ _ _ h => h) (Or.inr ⟨by rfl, rfl⟩) ?_ ?_
          rotate_left
          ·
           simp only [Act.put, List.setIfInBounds_toArray, List.set_cons_zero, List.set_cons_succ, i64_w, i32_w]
           rfl
          refine pure_ (i := 23) (N := some 78) (v := undef) (a' := ?_) #[true, true, true, true, true, true, true, true, true, true, true, true, true, true, true, true, true, true, true, true, true, true, true, true, false] rfl rfl (any_of HT_.out (by kernel_rfl)) (fun _ _ _ h => h) (Or.inr ⟨by rfl, rfl⟩) ?_ ?_
          rotate_left
          ·
           simp only [Act.put, List.setIfInBounds_toArray, List.set_cons_zero, List.set_cons_succ, i64_w, i32_w]
           rfl
          refine pure_ (i := 24) (N := some 79) (v := ?_) (a' := ?_) #[true, true, true, true, true, true, true, true, true, true, true, true, true, true, true, true, true, true, true, true, true, true, true, true, true] rfl rfl (any_of HT_.out (by kernel_rfl)) (fun _ _ _ h => h) (Or.inl ⟨by rfl, ?_⟩) ?_ ?_
          rotate_left
          ·
           intro w'
           go_simp
           with_reducible rfl
          rotate_left
          ·
           simp only [Act.put, List.setIfInBounds_toArray, List.set_cons_zero, List.set_cons_succ, i64_w, i32_w]
           rfl
          refine done_ (done_of HT_.out (by kernel_rfl)) ?_
          try go_wp2
          go_roundg k2
          case measure => have := HJ4.out; have := HK2.out; omega
          case rel => exact ⟨(wrap64 (x8_2 + 1)), ue, H', ⟨by have := HJ4.out; have := HK2.out; omega⟩, ⟨ur HO_4⟩, ⟨by (with_reducible repeat (first | apply Kd.R_alloc | apply Kd.R_drewN | apply Kd.R_drew)); exact Kd.R_mono HO_111001.out (fun _ hk => trivial)⟩, ⟨ub BK110⟩, ⟨uB2 HB GE110.out GE116.out⟩⟩
        ·
         rw [if_neg c23] at H
         exact absurd H (by simp)
       ·
        rw [if_neg c22] at H
        have c22b0 : decide (x8_2 < (t102.length : Int)) = false := decide_eq_false c22
        clear c22
        replace H := Option.bind_eq_some_iff.mp H
        obtain ⟨t114, A450, H⟩ := H
        replace H : (some (t114 == 0)) = some true := H
        have A45 := Aside0.mk A450
        clear A450
        have HE_ := Aside0.mk (Option.some.inj H)
        clear H
        have hcz46_0 : wr.cell? ⟨gb110, 0, none⟩ = some (.int .i64 t101) := (blk_cell BK110.out 0).trans rfl
        have hcz46_1 : wr.cell? ⟨gb110, 1, none⟩ = some (.slice Ao9 t102.length co9) := (blk_cell BK110.out 1).trans rfl
        have hfz46_0 := blk_frozen BK110.out 0
        have hfz46_1 := blk_frozen BK110.out 1
        go_wp2_with (first | ((with_reducible refine gate_callee (f := 79) rfl ?_); refine goesL_ (some 84) rfl rfl Try.func79 (by kernel_rfl) rfl #[.agg #[.int .i64 t101, .slice Ao9 t102.length co9], .slice Ao10 t105.length co10, .int .i64 t109, .int .i64 t109] rfl ul ?_; (with_reducible refine (impl_MarkBound.calls k2 t101 _ _ t102 _ _ t105 t109 t109 t114 _ ?side1 ?side2 ?side3 ?side4 A45.out).mono ?_); (case side1 => repeat (first | exact (Kd.R_reads' HO_111001.out).2.2 | (with_reducible refine Kd.C_alloc ?_ _) | (with_reducible refine Kd.C_drewN ?_ _) | (with_reducible refine Kd.C_drew ?_))); (case side2 => exact (Kd.R_reads' HO_111001.out).2.1); (case side3 => repeat (first | exact (Kd.R_reads' HO_4.out).2.2 | (with_reducible refine Kd.C_alloc ?_ _) | (with_reducible refine Kd.C_drewN ?_ _) | (with_reducible refine Kd.C_drew ?_))); (case side4 => exact (Kd.R_reads' HO_4.out).2.1); rintro e w47 ⟨rfl, hb⟩; refine ⟨_, rfl, ?_⟩; have n0_ := Aside0.mk (Kd.R_below (ur HO_4) hb); have n1_ := Aside0.mk (Kd.R_below (ur HO_111001) hb); have n2_ := Aside0.mk (blk_below (g := gb110) (o := .cells #[.int .i64 t101, .slice Ao9 t102.length co9] 25 (0, 0)) (ub BK110) hb); have n3_ := Aside0.mk (below_step (uB1 HB GE110.out) hb); clear HO_4; clear HO_111001; clear BK110; clear HB; have HO_4 := n0_; have HO_111001 := n1_; have BK110 := n2_; have HB := n3_; clear n0_ n1_ n2_ n3_; (try clear hb); (try clear hb2); (try clear hk); (try clear hi)))
        go_ret
        exact ⟨by first | rfl | (simp [errW_none, errW_some] <;> rfl) | (simp [*, errW_none, errW_some] <;> rfl) | exact congrArg (fun b_ => Ending.returned (Value.bool b_)) HE_.out, by repeat (first | (with_reducible first | exact HB.out | apply below_alloc | apply pw_below_drewN | apply below_drew1 | refine below_set ?_ GE110.out) | exact HB.out)⟩

/-- THE ONE PURE STATEMENT of laws_FnMarkWay: yours. -/
def laws_FnMarkWay.Pure : Prop := ∀ (l0 : List Int), l0.length ≤ maxLen → l0.length * 1 ≤ 140737488351232 → (∀ x ∈ l0, (Lit.int .u8 x).wf = true) → ∃ k, laws_FnMarkWay.f k l0 = some true
theorem laws_FnMarkWay.walk (P : laws_FnMarkWay.Pure) (a0 : Option Addr) (len0 cap0 : Nat) (z0 : List Int) (w : World) (w0 : (a0 = none ∧ len0 = 0 ∧ cap0 = 0 ∧ z0 = []) ∨ ∃ x, a0 = some x ∧ len0 ≤ cap0 ∧ cap0 ≤ maxLen ∧ z0.length = cap0 ∧ (∀ i, i < z0.length → w.cell? (x.add i) = some (.int .u8 (z0.getD i 0))) ∧ ∀ n ∈ z0, (Lit.int .u8 n).wf = true) (y0 : len0 * 1 ≤ 140737488351232) :
  Calls Try.prog 19 #[.slice a0 len0 cap0] w fun e w' => e = .returned (.bool true) ∧ Below w.heap.size w w' := by
 obtain ⟨l0, rfl, hr0, hm0, hw0, hc0⟩ := ReadsInt.ofRowC w0
 obtain ⟨k, h⟩ := P l0 hm0 y0 hw0
 refine (laws_FnMarkWay.calls k _ _ l0 w (Kd.C_of_reads (d := (0 : Int)) (h1 := fun _ => rfl) hr0) hc0 h).mono ?_
 rintro e w' ⟨rfl, hd⟩
 exact ⟨rfl, hd⟩

end Go.Proofs.Ytjmpngfgfddpaaa.P
