-- written for this claim by a program (wip/gen/myprint.py over the print tool). Not trusted: Lean checks it.
import Derived.Test.YtjmpngfgfddpaaaPx0
import Derived.Test.YtjmpngfgfddpaaaHUp
import Derived.Test.YtjmpngfgfddpaaaPFImplNearall
import Derived.Test.YtjmpngfgfddpaaaPFSpecDrawmarkbound
import Derived.Test.YtjmpngfgfddpaaaPFImplMarkbound
import Derived.Test.YtjmpngfgfddpaaaPFSpecMarkbound
namespace Go.Proofs.Ytjmpngfgfddpaaa.P
open Go.RowKit Go.Proofs.YtjmpngfgfddpaaaV.PrintWords Go.Proofs.YtjmpngfgfddpaaaV.PrintLast
set_option linter.unusedVariables false
set_option linter.unusedSimpArgs false

/-! ### laws_FnMarkBound: function 20 -/
def laws_FnMarkBound.j0 : Nat → List Int → Int → Int → Int → Bool → Int → List (S33) → Option (Bool)
 | 0, _, _, _, _, _, _, _ => none
 | k + 1, x4, x5, x6, x7, x40, x111000, x111001 => if x40 = true then ((spec_MarkBound.f k x111000 x111001 x4 x5 x6).bind fun t113 => (some (x7 == t113))) else ((impl_NearAll.f k x111000 x111001 x5).bind fun t114 => (if 0 ≤ x6 then (if x6 < (t114.length : Int) then ((some (([] : List Int) : List Int)).bind fun y118 => (if y118.length + x4.length < 17592186044416 then ((some (y118 ++ x4 : List Int)).bind fun y121 => (if y121.length < 17592186044416 then (if x7 ≤ (rd t114 x6) then ((impl_MarkBound.f k x111000 x111001 (y121 ++ [x5]) x5 x6).bind fun t127 => (if t127 = (rd t114 x6) then ((impl_MarkBound.f k x111000 x111001 ([] : List Int) x5 x6).bind fun t128 => (some (t128 == 0))) else (some false))) else (some false)) else (none))) else (none))) else (none)) else (none)))
def laws_FnMarkBound.f (k : Nat) (l0 : List Int) : Option (Bool) := if (l0.length : Int) > 1048576 then (some true) else ((spec_DrawMarkBound.f k l0).bind fun bt101 => ((impl_MarkBound.f k bt101.1 bt101.2.1 bt101.2.2.1 bt101.2.2.2.1 bt101.2.2.2.2).bind fun t111 => ((spec_MarkBound.f k bt101.1 bt101.2.1 bt101.2.2.1 bt101.2.2.2.1 bt101.2.2.2.2).bind fun t112 => (if t111 = t112 then (if t111 < 0 then (laws_FnMarkBound.j0 k bt101.2.2.1 bt101.2.2.2.1 bt101.2.2.2.2 t111 true bt101.1 bt101.2.1) else (laws_FnMarkBound.j0 k bt101.2.2.1 bt101.2.2.2.1 bt101.2.2.2.2 t111 (decide ((bt101.2.2.1.length : Int) > 5)) bt101.1 bt101.2.1)) else (laws_FnMarkBound.j0 k bt101.2.2.1 bt101.2.2.2.1 bt101.2.2.2.2 t111 true bt101.1 bt101.2.1)))))
set_option maxHeartbeats 8000000 in
set_option maxRecDepth 100000 in
theorem laws_FnMarkBound.calls (k : Nat) (A0 : Option Addr) (c0 : Nat) (l0 : List Int) (w : World) (hr0 : Kd.C (Kd.int .u8) w A0 l0.length l0) (hc0 : l0.length ≤ c0) (h : laws_FnMarkBound.f k l0 = some true) :
  Calls Try.prog 20 #[.slice A0 l0.length c0] w fun e w' => e = .returned (.bool true) ∧ Below w.heap.size w w' := by
 have hu25 := Try.underlying25
 have HR0 := Aside0.mk hr0
 have HC0 := Aside0.mk hc0
 clear hr0 hc0
 have HB := Aside0.mk (Below.refl w.heap.size w)
 have H : (if (l0.length : Int) > 1048576 then (some true) else ((spec_DrawMarkBound.f k l0).bind fun bt101 => ((impl_MarkBound.f k bt101.1 bt101.2.1 bt101.2.2.1 bt101.2.2.2.1 bt101.2.2.2.2).bind fun t111 => ((spec_MarkBound.f k bt101.1 bt101.2.1 bt101.2.2.1 bt101.2.2.2.1 bt101.2.2.2.2).bind fun t112 => (if t111 = t112 then (if t111 < 0 then (laws_FnMarkBound.j0 k bt101.2.2.1 bt101.2.2.2.1 bt101.2.2.2.2 t111 true bt101.1 bt101.2.1) else (laws_FnMarkBound.j0 k bt101.2.2.1 bt101.2.2.2.1 bt101.2.2.2.2 t111 (decide ((bt101.2.2.1.length : Int) > 5)) bt101.1 bt101.2.1)) else (laws_FnMarkBound.j0 k bt101.2.2.1 bt101.2.2.2.1 bt101.2.2.2.2 t111 true bt101.1 bt101.2.1)))))) = some true := h
 clear h
 by_cases c2 : (l0.length : Int) > 1048576
 ·
  rw [if_pos c2] at H
  have c2b0 : decide (1048576 < (l0.length : Int)) = true := decide_eq_true c2
  have c2b1 : decide (1048576 < l0.length) = true := decide_eq_true (by omega)
  clear c2
  clear H
  go_enter Try.func20, Try.ntmps20
  go_wp2
  go_ret
  exact ⟨by first | rfl | (simp [errW_none, errW_some] <;> rfl) | (simp [*, errW_none, errW_some] <;> rfl) | exact congrArg (fun b_ => Ending.returned (Value.bool b_)) HE_.out, by repeat (first | (with_reducible first | exact HB.out | apply below_alloc | apply pw_below_drewN | apply below_drew1) | exact HB.out)⟩
 ·
  rw [if_neg c2] at H
  have c2b0 : decide (1048576 < (l0.length : Int)) = false := decide_eq_false c2
  have c2b1 : decide (1048576 < l0.length) = false := decide_eq_false (by omega)
  clear c2
  replace H := Option.bind_eq_some_iff.mp H
  obtain ⟨⟨t101, t102, t105, t108, t109⟩, A30, H⟩ := H
  replace H : ((impl_MarkBound.f k t101 t102 t105 t108 t109).bind fun t111 => ((spec_MarkBound.f k t101 t102 t105 t108 t109).bind fun t112 => (if t111 = t112 then (if t111 < 0 then (laws_FnMarkBound.j0 k t105 t108 t109 t111 true t101 t102) else (laws_FnMarkBound.j0 k t105 t108 t109 t111 (decide ((t105.length : Int) > 5)) t101 t102)) else (laws_FnMarkBound.j0 k t105 t108 t109 t111 true t101 t102)))) = some true := H
  have A3 := Aside0.mk A30
  clear A30
  replace H := Option.bind_eq_some_iff.mp H
  obtain ⟨t111, A40, H⟩ := H
  replace H : ((spec_MarkBound.f k t101 t102 t105 t108 t109).bind fun t112 => (if t111 = t112 then (if t111 < 0 then (laws_FnMarkBound.j0 k t105 t108 t109 t111 true t101 t102) else (laws_FnMarkBound.j0 k t105 t108 t109 t111 (decide ((t105.length : Int) > 5)) t101 t102)) else (laws_FnMarkBound.j0 k t105 t108 t109 t111 true t101 t102))) = some true := H
  have A4 := Aside0.mk A40
  clear A40
  have HC5 := Aside0.mk H
  clear H
  go_enter Try.func20, Try.ntmps20
  go_upto_region 5 with (first | ((with_reducible refine gate_callee (f := 78) rfl ?_); refine goesL_ (some 15) rfl rfl Try.func78 (by kernel_rfl) rfl #[.slice A0 l0.length c0] rfl ul ?_; (with_reducible refine (spec_DrawMarkBound.calls k _ _ l0 t101 t102 t105 t108 t109 _ ?side1 ?side2 A3.out).mono ?_); (case side1 => repeat (first | exact HR0.out | (with_reducible refine Kd.C_alloc ?_ _) | (with_reducible refine Kd.C_drewN ?_ _) | (with_reducible refine Kd.C_drew ?_))); (case side2 => exact HC0.out); rintro e w6 ⟨v103, v106, rfl, ho0, ho1, hb⟩; refine ⟨_, rfl, ?_⟩; have n0_ := Aside0.mk (Kd.R_lower ho0 (below_size (uB0 HB))); have n1_ := Aside0.mk (Kd.R_lower ho1 (below_size (uB0 HB))); have n2_ := Aside0.mk (below_step (uB0 HB) hb); clear HB; have HO104 := n0_; have HO107 := n1_; have HB := n2_; clear n0_ n1_ n2_; (try clear hb); (try clear hb2); (try clear hk); (try clear hi); (try clear ho0); (try clear ho1)) | ((with_reducible refine gate_dst (N := 3) rfl ?_); refine box_event ?hg (N := 3) ?hd (cs := #[.int .i64 0, .slice none 0 0]) (t := 25) ?hr ?_; (case hd => rfl); (case hg => rfl); (case hr => first | (go_simp; done) | (go_simp; rfl)); intro gb110 hg w7 hbox hb; have n0_ := Aside0.mk (Kd.R_below (ur HO104) hb); have n1_ := Aside0.mk (Kd.R_below (ur HO107) hb); have n2_ := Aside0.mk (below_step (uB0 HB) hb); have n3_ := Aside0.mk (hbox); have n4_ := Aside0.mk ((by rw [hg]; exact (below_size (uB0 HB)) : w.heap.size ≤ gb110)); have n5_ := Aside0.mk ((by rw [hg]; exact (below_size (uB0 HB)) : w.heap.size ≤ gb110)); clear HO104; clear HO107; clear HB; have HO104 := n0_; have HO107 := n1_; have HB := n2_; have BK110 := n3_; have GW110 := n4_; have GE110 := n5_; clear n0_ n1_ n2_ n3_ n4_ n5_; clear hb hbox hg; have hcz8_0 : w7.cell? ⟨gb110, 0, none⟩ = some (.int .i64 0) := (blk_cell BK110.out 0).trans rfl; have hcz8_1 : w7.cell? ⟨gb110, 1, none⟩ = some (.slice none 0 0) := (blk_cell BK110.out 1).trans rfl; have hfz8_0 := blk_frozen BK110.out 0; have hfz8_1 := blk_frozen BK110.out 1; obtain ⟨Ao9, co9, eo9⟩ := Kd.R_slice HO104.out; subst eo9; obtain ⟨Ao10, co10, eo10⟩ := Kd.R_slice HO107.out; subst eo10) | ((with_reducible refine gate_callee (f := 79) rfl ?_); refine goesL_ (some 24) rfl rfl Try.func79 (by kernel_rfl) rfl #[.agg #[.int .i64 t101, .slice Ao9 t102.length co9], .slice Ao10 t105.length co10, .int .i64 t108, .int .i64 t109] rfl ul ?_; (with_reducible refine (impl_MarkBound.calls k t101 _ _ t102 _ _ t105 t108 t109 t111 _ ?side1 ?side2 ?side3 ?side4 A4.out).mono ?_); (case side1 => refine (Kd.R_reads' (e := 33) (base := w.heap.size) (ok := fun k_ => True) (n := t102.length) (c := co9) ?_).2.2; exact (by (with_reducible repeat (first | apply Kd.R_alloc | apply Kd.R_drewN | apply Kd.R_drew)); exact (Kd.R_mono (Kd.R_far (p := ⟨gb110, 1, none⟩) (Kd.R_far (p := ⟨gb110, 0, none⟩) (Kd.R_types HO104.out BK110.out (by decide)) (fun _ hk => hk.2) (.int .i64 t101)) (fun _ hk => hk.2) (.slice Ao9 t102.length co9)) (fun _ h_ => h_.1)))); (case side2 => exact (Kd.R_reads' HO104.out).2.1); (case side3 => refine (Kd.R_reads' (e := 3) (base := w.heap.size) (ok := fun k_ => True) (n := t105.length) (c := co10) ?_).2.2; exact (by (with_reducible repeat (first | apply Kd.R_alloc | apply Kd.R_drewN | apply Kd.R_drew)); exact (Kd.R_mono (Kd.R_far (p := ⟨gb110, 1, none⟩) (Kd.R_far (p := ⟨gb110, 0, none⟩) (Kd.R_types HO107.out BK110.out (by decide)) (fun _ hk => hk.2) (.int .i64 t101)) (fun _ hk => hk.2) (.slice Ao9 t102.length co9)) (fun _ h_ => h_.1)))); (case side4 => exact (Kd.R_reads' HO107.out).2.1); rintro e w11 ⟨rfl, hb⟩; refine ⟨_, rfl, ?_⟩; have n0_ := Aside0.mk (Kd.R_below (by (with_reducible repeat (first | apply Kd.R_alloc | apply Kd.R_drewN | apply Kd.R_drew)); exact (Kd.R_mono (Kd.R_far (p := ⟨gb110, 1, none⟩) (Kd.R_far (p := ⟨gb110, 0, none⟩) (Kd.R_types HO104.out BK110.out (by decide)) (fun _ hk => hk.2) (.int .i64 t101)) (fun _ hk => hk.2) (.slice Ao9 t102.length co9)) (fun _ h_ => h_.1))) hb); have n1_ := Aside0.mk (Kd.R_below (by (with_reducible repeat (first | apply Kd.R_alloc | apply Kd.R_drewN | apply Kd.R_drew)); exact (Kd.R_mono (Kd.R_far (p := ⟨gb110, 1, none⟩) (Kd.R_far (p := ⟨gb110, 0, none⟩) (Kd.R_types HO107.out BK110.out (by decide)) (fun _ hk => hk.2) (.int .i64 t101)) (fun _ hk => hk.2) (.slice Ao9 t102.length co9)) (fun _ h_ => h_.1))) hb); have n2_ := Aside0.mk (blk_below (g := gb110) (o := .cells #[.int .i64 t101, .slice Ao9 t102.length co9] 25 (0, 0)) (by (with_reducible repeat (first | refine blk_drewN ?_ _ | refine blk_drew ?_ | refine blk_alloc ?_ _)); refine blk_put (cs := #[.int .i64 t101, .slice none 0 0]) ?_ 1 _ rfl; (with_reducible repeat (first | refine blk_drewN ?_ _ | refine blk_drew ?_ | refine blk_alloc ?_ _)); refine blk_put (cs := #[.int .i64 0, .slice none 0 0]) ?_ 0 _ rfl; exact ub BK110) hb); have n3_ := Aside0.mk (below_step (uB1 HB GE110.out) hb); clear HO104; clear HO107; clear BK110; clear HB; have HO104 := n0_; have HO107 := n1_; have BK110 := n2_; have HB := n3_; clear n0_ n1_ n2_ n3_; (try clear hb); (try clear hb2); (try clear hk); (try clear hi)))
  (try simp only [Act.put, List.setIfInBounds_toArray, List.set_cons_zero, List.set_cons_succ])
  go_cut [40] (fun v40 wc => ∃ (kq : Nat) (x40_4 : Bool), v40 = .bool x40_4 ∧ Aside0 (laws_FnMarkBound.j0 kq t105 t108 t109 t111 x40_4 t101 t102 = some true) ∧ Aside0 (kq ≤ k) ∧ Aside0 (Kd.R (Kd.int .i64) 3 wc w.heap.size (fun _ => True) (.slice Ao10 t105.length co10) t105) ∧ Aside0 (Kd.R k33 33 wc w.heap.size (fun _ => True) (.slice Ao9 t102.length co9) t102) ∧ Aside0 (wc.heap[gb110]? = some (.cells #[.int .i64 t101, (.slice Ao9 t102.length co9)] 25 (0, 0))) ∧ Aside0 (Below w.heap.size w wc))
  case first =>
   have H := HC5.out
   clear HC5
   replace H := Option.bind_eq_some_iff.mp H
   obtain ⟨t112, A120, H⟩ := H
   replace H : (if t111 = t112 then (if t111 < 0 then (laws_FnMarkBound.j0 k t105 t108 t109 t111 true t101 t102) else (laws_FnMarkBound.j0 k t105 t108 t109 t111 (decide ((t105.length : Int) > 5)) t101 t102)) else (laws_FnMarkBound.j0 k t105 t108 t109 t111 true t101 t102)) = some true := H
   have A12 := Aside0.mk A120
   clear A120
   by_cases c13 : t111 = t112
   ·
    rw [if_pos c13] at H
    have c13b0 : (t111 == t112) = true := beq_iff_eq.mpr c13
    have c13b1 : (t111 != t112) = false := bne_eq_false_iff_eq.mpr c13
    clear c13
    (first | rw [c13b0] | (simp only [i64_w, i32_w]; rw [c13b0]) | skip)
    by_cases c14 : t111 < 0
    ·
     rw [if_pos c14] at H
     have c14b0 : decide (t111 < 0) = true := decide_eq_true c14
     clear c14
     have H' := Aside0.mk H
     clear H
     have hcz15_0 : w11.cell? ⟨gb110, 0, none⟩ = some (.int .i64 t101) := (blk_cell BK110.out 0).trans rfl
     have hcz15_1 : w11.cell? ⟨gb110, 1, none⟩ = some (.slice Ao9 t102.length co9) := (blk_cell BK110.out 1).trans rfl
     have hfz15_0 := blk_frozen BK110.out 0
     have hfz15_1 := blk_frozen BK110.out 1
     go_wp2_with (first | ((with_reducible refine gate_callee (f := 80) rfl ?_); refine goesL_ (some 30) rfl rfl Try.func80 (by kernel_rfl) rfl #[.agg #[.int .i64 t101, .slice Ao9 t102.length co9], .slice Ao10 t105.length co10, .int .i64 t108, .int .i64 t109] rfl ul ?_; (with_reducible refine (spec_MarkBound.calls k t101 _ _ t102 _ _ t105 t108 t109 t112 _ ?side1 ?side2 ?side3 ?side4 A12.out).mono ?_); (case side1 => repeat (first | exact (Kd.R_reads' HO104.out).2.2 | (with_reducible refine Kd.C_alloc ?_ _) | (with_reducible refine Kd.C_drewN ?_ _) | (with_reducible refine Kd.C_drew ?_))); (case side2 => exact (Kd.R_reads' HO104.out).2.1); (case side3 => repeat (first | exact (Kd.R_reads' HO107.out).2.2 | (with_reducible refine Kd.C_alloc ?_ _) | (with_reducible refine Kd.C_drewN ?_ _) | (with_reducible refine Kd.C_drew ?_))); (case side4 => exact (Kd.R_reads' HO107.out).2.1); rintro e w16 ⟨rfl, hb⟩; refine ⟨_, rfl, ?_⟩; have n0_ := Aside0.mk (Kd.R_below (ur HO104) hb); have n1_ := Aside0.mk (Kd.R_below (ur HO107) hb); have n2_ := Aside0.mk (blk_below (g := gb110) (o := .cells #[.int .i64 t101, .slice Ao9 t102.length co9] 25 (0, 0)) (ub BK110) hb); have n3_ := Aside0.mk (below_step (uB1 HB GE110.out) hb); clear HO104; clear HO107; clear BK110; clear HB; have HO104 := n0_; have HO107 := n1_; have BK110 := n2_; have HB := n3_; clear n0_ n1_ n2_ n3_; (try clear hb); (try clear hb2); (try clear hk); (try clear hi)))
     go_meet
     case rel => exact ⟨_, (true), ue, H', ⟨by first | omega | exact Nat.le_refl _⟩, ⟨ur HO107⟩, ⟨ur HO104⟩, ⟨ub BK110⟩, ⟨uB1 HB GE110.out⟩⟩
    ·
     rw [if_neg c14] at H
     have c14b0 : decide (t111 < 0) = false := decide_eq_false c14
     clear c14
     have H' := Aside0.mk H
     clear H
     have hcz17_0 : w11.cell? ⟨gb110, 0, none⟩ = some (.int .i64 t101) := (blk_cell BK110.out 0).trans rfl
     have hcz17_1 : w11.cell? ⟨gb110, 1, none⟩ = some (.slice Ao9 t102.length co9) := (blk_cell BK110.out 1).trans rfl
     have hfz17_0 := blk_frozen BK110.out 0
     have hfz17_1 := blk_frozen BK110.out 1
     go_wp2_with (first | ((with_reducible refine gate_callee (f := 80) rfl ?_); refine goesL_ (some 30) rfl rfl Try.func80 (by kernel_rfl) rfl #[.agg #[.int .i64 t101, .slice Ao9 t102.length co9], .slice Ao10 t105.length co10, .int .i64 t108, .int .i64 t109] rfl ul ?_; (with_reducible refine (spec_MarkBound.calls k t101 _ _ t102 _ _ t105 t108 t109 t112 _ ?side1 ?side2 ?side3 ?side4 A12.out).mono ?_); (case side1 => repeat (first | exact (Kd.R_reads' HO104.out).2.2 | (with_reducible refine Kd.C_alloc ?_ _) | (with_reducible refine Kd.C_drewN ?_ _) | (with_reducible refine Kd.C_drew ?_))); (case side2 => exact (Kd.R_reads' HO104.out).2.1); (case side3 => repeat (first | exact (Kd.R_reads' HO107.out).2.2 | (with_reducible refine Kd.C_alloc ?_ _) | (with_reducible refine Kd.C_drewN ?_ _) | (with_reducible refine Kd.C_drew ?_))); (case side4 => exact (Kd.R_reads' HO107.out).2.1); rintro e w18 ⟨rfl, hb⟩; refine ⟨_, rfl, ?_⟩; have n0_ := Aside0.mk (Kd.R_below (ur HO104) hb); have n1_ := Aside0.mk (Kd.R_below (ur HO107) hb); have n2_ := Aside0.mk (blk_below (g := gb110) (o := .cells #[.int .i64 t101, .slice Ao9 t102.length co9] 25 (0, 0)) (ub BK110) hb); have n3_ := Aside0.mk (below_step (uB1 HB GE110.out) hb); clear HO104; clear HO107; clear BK110; clear HB; have HO104 := n0_; have HO107 := n1_; have BK110 := n2_; have HB := n3_; clear n0_ n1_ n2_ n3_; (try clear hb); (try clear hb2); (try clear hk); (try clear hi)))
     go_meet
     case rel => exact ⟨_, (decide ((t105.length : Int) > 5)), ue, H', ⟨by first | omega | exact Nat.le_refl _⟩, ⟨ur HO107⟩, ⟨ur HO104⟩, ⟨ub BK110⟩, ⟨uB1 HB GE110.out⟩⟩
   ·
    rw [if_neg c13] at H
    have c13b0 : (t111 == t112) = false := beq_eq_false_iff_ne.mpr c13
    have c13b1 : (t111 != t112) = true := bne_iff_ne.mpr c13
    (first | rw [c13b0] | (simp only [i64_w, i32_w]; rw [c13b0]) | skip)
    have H' := Aside0.mk H
    clear H
    have hcz19_0 : w11.cell? ⟨gb110, 0, none⟩ = some (.int .i64 t101) := (blk_cell BK110.out 0).trans rfl
    have hcz19_1 : w11.cell? ⟨gb110, 1, none⟩ = some (.slice Ao9 t102.length co9) := (blk_cell BK110.out 1).trans rfl
    have hfz19_0 := blk_frozen BK110.out 0
    have hfz19_1 := blk_frozen BK110.out 1
    go_wp2_with (first | ((with_reducible refine gate_callee (f := 80) rfl ?_); refine goesL_ (some 30) rfl rfl Try.func80 (by kernel_rfl) rfl #[.agg #[.int .i64 t101, .slice Ao9 t102.length co9], .slice Ao10 t105.length co10, .int .i64 t108, .int .i64 t109] rfl ul ?_; (with_reducible refine (spec_MarkBound.calls k t101 _ _ t102 _ _ t105 t108 t109 t112 _ ?side1 ?side2 ?side3 ?side4 A12.out).mono ?_); (case side1 => repeat (first | exact (Kd.R_reads' HO104.out).2.2 | (with_reducible refine Kd.C_alloc ?_ _) | (with_reducible refine Kd.C_drewN ?_ _) | (with_reducible refine Kd.C_drew ?_))); (case side2 => exact (Kd.R_reads' HO104.out).2.1); (case side3 => repeat (first | exact (Kd.R_reads' HO107.out).2.2 | (with_reducible refine Kd.C_alloc ?_ _) | (with_reducible refine Kd.C_drewN ?_ _) | (with_reducible refine Kd.C_drew ?_))); (case side4 => exact (Kd.R_reads' HO107.out).2.1); rintro e w20 ⟨rfl, hb⟩; refine ⟨_, rfl, ?_⟩; have n0_ := Aside0.mk (Kd.R_below (ur HO104) hb); have n1_ := Aside0.mk (Kd.R_below (ur HO107) hb); have n2_ := Aside0.mk (blk_below (g := gb110) (o := .cells #[.int .i64 t101, .slice Ao9 t102.length co9] 25 (0, 0)) (ub BK110) hb); have n3_ := Aside0.mk (below_step (uB1 HB GE110.out) hb); clear HO104; clear HO107; clear BK110; clear HB; have HO104 := n0_; have HO107 := n1_; have BK110 := n2_; have HB := n3_; clear n0_ n1_ n2_ n3_; (try clear hb); (try clear hb2); (try clear hk); (try clear hi)))
    go_meet
    case rel => exact ⟨_, (true), ue, H', ⟨by first | omega | exact Nat.le_refl _⟩, ⟨ur HO107⟩, ⟨ur HO104⟩, ⟨ub BK110⟩, ⟨uB1 HB GE110.out⟩⟩
  case rest =>
   clear HC5
   try clear c1
   try clear c2
   try clear c2b0
   try clear c2b1
   try clear p2
   try clear c7
   try clear c8
   try clear c13
   try clear c13b0
   try clear c13b1
   try clear c14
   try clear c14b0
   try clear c20
   try clear hcz15_0
   try clear hcz15_1
   try clear hcz17_0
   try clear hcz17_1
   try clear hcz19_0
   try clear hcz19_1
   try clear hcz8_0
   try clear hcz8_1
   try clear hfz15_0
   try clear hfz15_1
   try clear hfz17_0
   try clear hfz17_1
   try clear hfz19_0
   try clear hfz19_1
   try clear hfz8_0
   try clear hfz8_1
   obtain ⟨kq, x40_4, rfl, HA, HJ4, HO_4, HO_111001, BK110, HB⟩ := hcut
   cases kq with
   | zero => exact absurd HA.out (by simp [laws_FnMarkBound.j0])
   | succ kj4 =>
    have H := HA.out
    clear HA
    simp only [laws_FnMarkBound.j0] at H
    by_cases c21 : x40_4 = true
    ·
     subst c21
     have H1 : ((spec_MarkBound.f kj4 t101 t102 t105 t108 t109).bind fun t113 => (some (t111 == t113))) = some true := by rw [if_pos rfl] at H; exact H
     clear H
     have H := H1
     clear H1
     replace H := Option.bind_eq_some_iff.mp H
     obtain ⟨t113, A220, H⟩ := H
     replace H : (some (t111 == t113)) = some true := H
     have A22 := Aside0.mk A220
     clear A220
     have HE_ := Aside0.mk (Option.some.inj H)
     clear H
     have hcz23_0 : wc.cell? ⟨gb110, 0, none⟩ = some (.int .i64 t101) := (blk_cell BK110.out 0).trans rfl
     have hcz23_1 : wc.cell? ⟨gb110, 1, none⟩ = some (.slice Ao9 t102.length co9) := (blk_cell BK110.out 1).trans rfl
     have hfz23_0 := blk_frozen BK110.out 0
     have hfz23_1 := blk_frozen BK110.out 1
     go_wp2_with (first | ((with_reducible refine gate_callee (f := 80) rfl ?_); refine goesL_ (some 46) rfl rfl Try.func80 (by kernel_rfl) rfl #[.agg #[.int .i64 t101, .slice Ao9 t102.length co9], .slice Ao10 t105.length co10, .int .i64 t108, .int .i64 t109] rfl ul ?_; (with_reducible refine (spec_MarkBound.calls kj4 t101 _ _ t102 _ _ t105 t108 t109 t113 _ ?side1 ?side2 ?side3 ?side4 A22.out).mono ?_); (case side1 => repeat (first | exact (Kd.R_reads' HO_111001.out).2.2 | (with_reducible refine Kd.C_alloc ?_ _) | (with_reducible refine Kd.C_drewN ?_ _) | (with_reducible refine Kd.C_drew ?_))); (case side2 => exact (Kd.R_reads' HO_111001.out).2.1); (case side3 => repeat (first | exact (Kd.R_reads' HO_4.out).2.2 | (with_reducible refine Kd.C_alloc ?_ _) | (with_reducible refine Kd.C_drewN ?_ _) | (with_reducible refine Kd.C_drew ?_))); (case side4 => exact (Kd.R_reads' HO_4.out).2.1); rintro e w24 ⟨rfl, hb⟩; refine ⟨_, rfl, ?_⟩; have n0_ := Aside0.mk (Kd.R_below (ur HO_4) hb); have n1_ := Aside0.mk (Kd.R_below (ur HO_111001) hb); have n2_ := Aside0.mk (blk_below (g := gb110) (o := .cells #[.int .i64 t101, .slice Ao9 t102.length co9] 25 (0, 0)) (ub BK110) hb); have n3_ := Aside0.mk (below_step (uB1 HB GE110.out) hb); clear HO_4; clear HO_111001; clear BK110; clear HB; have HO_4 := n0_; have HO_111001 := n1_; have BK110 := n2_; have HB := n3_; clear n0_ n1_ n2_ n3_; (try clear hb); (try clear hb2); (try clear hk); (try clear hi)))
     go_ret
     exact ⟨by first | rfl | (simp [errW_none, errW_some] <;> rfl) | (simp [*, errW_none, errW_some] <;> rfl) | exact congrArg (fun b_ => Ending.returned (Value.bool b_)) HE_.out, by repeat (first | (with_reducible first | exact HB.out | apply below_alloc | apply pw_below_drewN | apply below_drew1 | refine below_set ?_ GE110.out) | exact HB.out)⟩
    ·
     replace c21 := Bool.eq_false_iff.mpr c21
     subst c21
     have H1 : ((impl_NearAll.f kj4 t101 t102 t108).bind fun t114 => (if 0 ≤ t109 then (if t109 < (t114.length : Int) then ((some (([] : List Int) : List Int)).bind fun y118 => (if y118.length + t105.length < 17592186044416 then ((some (y118 ++ t105 : List Int)).bind fun y121 => (if y121.length < 17592186044416 then (if t111 ≤ (rd t114 t109) then ((impl_MarkBound.f kj4 t101 t102 (y121 ++ [t108]) t108 t109).bind fun t127 => (if t127 = (rd t114 t109) then ((impl_MarkBound.f kj4 t101 t102 ([] : List Int) t108 t109).bind fun t128 => (some (t128 == 0))) else (some false))) else (some false)) else (none))) else (none))) else (none)) else (none))) = some true := by rw [if_neg (show ¬ (false = true) by decide)] at H; exact H
     clear H
     have H := H1
     clear H1
     replace H := Option.bind_eq_some_iff.mp H
     obtain ⟨t114, A250, H⟩ := H
     replace H : (if 0 ≤ t109 then (if t109 < (t114.length : Int) then ((some (([] : List Int) : List Int)).bind fun y118 => (if y118.length + t105.length < 17592186044416 then ((some (y118 ++ t105 : List Int)).bind fun y121 => (if y121.length < 17592186044416 then (if t111 ≤ (rd t114 t109) then ((impl_MarkBound.f kj4 t101 t102 (y121 ++ [t108]) t108 t109).bind fun t127 => (if t127 = (rd t114 t109) then ((impl_MarkBound.f kj4 t101 t102 ([] : List Int) t108 t109).bind fun t128 => (some (t128 == 0))) else (some false))) else (some false)) else (none))) else (none))) else (none)) else (none)) = some true := H
     have A25 := Aside0.mk A250
     clear A250
     by_cases c26 : 0 ≤ t109
     ·
      rw [if_pos c26] at H
      have c26b0 : decide (0 ≤ t109) = true := decide_eq_true c26
      clear c26
      by_cases c27 : t109 < (t114.length : Int)
      ·
       rw [if_pos c27] at H
       have c27b0 : decide (t109 < (t114.length : Int)) = true := decide_eq_true c27
       clear c27
       obtain ⟨y118, hy118⟩ : ∃ y_ : List Int, y_ = (([] : List Int)) := ⟨_, rfl⟩
       replace H : (if y118.length + t105.length < 17592186044416 then ((some (y118 ++ t105 : List Int)).bind fun y121 => (if y121.length < 17592186044416 then (if t111 ≤ (rd t114 t109) then ((impl_MarkBound.f kj4 t101 t102 (y121 ++ [t108]) t108 t109).bind fun t127 => (if t127 = (rd t114 t109) then ((impl_MarkBound.f kj4 t101 t102 ([] : List Int) t108 t109).bind fun t128 => (some (t128 == 0))) else (some false))) else (some false)) else (none))) else (none)) = some true := by first | (rw [hy118]; with_reducible exact H) | (have H2_ := (Option.bind_some _ _).symm.trans H; rw [hy118]; with_reducible exact H2_) | (have H2_ := (Option.bind_some _ _).symm.trans H; with_reducible exact H2_) | with_reducible exact H | (rw [hy118]; exact H) | exact H
       have Ny118 := Aside0.mk hy118
       clear hy118
       by_cases c28 : y118.length + t105.length < 17592186044416
       ·
        rw [if_pos c28] at H
        have LMc28 := Aside0.mk c28
        clear c28
        obtain ⟨y121, hy121⟩ : ∃ y_ : List Int, y_ = (y118 ++ t105) := ⟨_, rfl⟩
        replace H : (if y121.length < 17592186044416 then (if t111 ≤ (rd t114 t109) then ((impl_MarkBound.f kj4 t101 t102 (y121 ++ [t108]) t108 t109).bind fun t127 => (if t127 = (rd t114 t109) then ((impl_MarkBound.f kj4 t101 t102 ([] : List Int) t108 t109).bind fun t128 => (some (t128 == 0))) else (some false))) else (some false)) else (none)) = some true := by first | (rw [hy121]; with_reducible exact H) | (have H2_ := (Option.bind_some _ _).symm.trans H; rw [hy121]; with_reducible exact H2_) | (have H2_ := (Option.bind_some _ _).symm.trans H; with_reducible exact H2_) | with_reducible exact H | (rw [hy121]; exact H) | exact H
        have Ny121 := Aside0.mk hy121
        clear hy121
        by_cases c29 : y121.length < 17592186044416
        ·
         rw [if_pos c29] at H
         have LMc29 := Aside0.mk c29
         clear c29
         obtain ⟨y124, hy124⟩ : ∃ y_ : List Int, y_ = (y121 ++ [t108]) := ⟨_, rfl⟩
         replace H : (if t111 ≤ (rd t114 t109) then ((impl_MarkBound.f kj4 t101 t102 y124 t108 t109).bind fun t127 => (if t127 = (rd t114 t109) then ((impl_MarkBound.f kj4 t101 t102 ([] : List Int) t108 t109).bind fun t128 => (some (t128 == 0))) else (some false))) else (some false)) = some true := by first | (rw [hy124]; with_reducible exact H) | (have H2_ := (Option.bind_some _ _).symm.trans H; rw [hy124]; with_reducible exact H2_) | (have H2_ := (Option.bind_some _ _).symm.trans H; with_reducible exact H2_) | with_reducible exact H | (rw [hy124]; exact H) | exact H
         have Ny124 := Aside0.mk hy124
         clear hy124
         by_cases c30 : t111 ≤ (rd t114 t109)
         ·
          rw [if_pos c30] at H
          have c30b0 : decide (t111 ≤ (rd t114 t109)) = true := decide_eq_true c30
          clear c30
          replace H := Option.bind_eq_some_iff.mp H
          obtain ⟨t127, A310, H⟩ := H
          replace H : (if t127 = (rd t114 t109) then ((impl_MarkBound.f kj4 t101 t102 ([] : List Int) t108 t109).bind fun t128 => (some (t128 == 0))) else (some false)) = some true := H
          have A31 := Aside0.mk A310
          clear A310
          by_cases c32 : t127 = (rd t114 t109)
          ·
           rw [if_pos c32] at H
           have c32b0 : (t127 == (rd t114 t109)) = true := beq_iff_eq.mpr c32
           have c32b1 : (t127 != (rd t114 t109)) = false := bne_eq_false_iff_eq.mpr c32
           clear c32
           replace H := Option.bind_eq_some_iff.mp H
           obtain ⟨t128, A330, H⟩ := H
           replace H : (some (t128 == 0)) = some true := H
           have A33 := Aside0.mk A330
           clear A330
           have HE_ := Aside0.mk (Option.some.inj H)
           clear H
           have hcz34_0 : wc.cell? ⟨gb110, 0, none⟩ = some (.int .i64 t101) := (blk_cell BK110.out 0).trans rfl
           have hcz34_1 : wc.cell? ⟨gb110, 1, none⟩ = some (.slice Ao9 t102.length co9) := (blk_cell BK110.out 1).trans rfl
           have hfz34_0 := blk_frozen BK110.out 0
           have hfz34_1 := blk_frozen BK110.out 1
           go_wp2_with (first | ((with_reducible refine gate_callee (f := 63) rfl ?_); refine goesL_ (some 50) rfl rfl Try.func63 (by kernel_rfl) rfl #[.agg #[.int .i64 t101, .slice Ao9 t102.length co9], .int .i64 t108] rfl ul ?_; (with_reducible refine (impl_NearAll.calls kj4 t101 _ _ t102 t108 t114 _ ?side1 ?side2 A25.out).mono ?_); (case side1 => repeat (first | exact (Kd.R_reads' HO_111001.out).2.2 | (with_reducible refine Kd.C_alloc ?_ _) | (with_reducible refine Kd.C_drewN ?_ _) | (with_reducible refine Kd.C_drew ?_))); (case side2 => exact (Kd.R_reads' HO_111001.out).2.1); rintro e w35 ⟨v115, rfl, ho0, hb⟩; refine ⟨_, rfl, ?_⟩; have n0_ := Aside0.mk (Kd.R_elder' (ur HO_4) (Kd.R_base ho0) hb); have n1_ := Aside0.mk (Kd.R_below (ur HO_111001) hb); have n2_ := Aside0.mk (Kd.R_lower (Kd.R_new' ho0 (Kd.R_lt (ur HO_4))) (below_size (uB1 HB GE110.out))); have n3_ := Aside0.mk (blk_below (g := gb110) (o := .cells #[.int .i64 t101, .slice Ao9 t102.length co9] 25 (0, 0)) (ub BK110) hb); have n4_ := Aside0.mk (below_step (uB1 HB GE110.out) hb); clear HO_4; clear HO_111001; clear BK110; clear HB; have HO_4 := n0_; have HO_111001 := n1_; have HO116 := n2_; have BK110 := n3_; have HB := n4_; clear n0_ n1_ n2_ n3_ n4_; (try clear hb); (try clear hb2); (try clear hk); (try clear hi); (try clear ho0); obtain ⟨Ao36, co36, eo36⟩ := Kd.R_slice HO116.out; subst eo36; have p117 : 0 ≤ (t109 : Int) := ua; have q117 : t109 < (t114.length : Int) := ua; obtain ⟨ad117, e117, hx117_0⟩ := Kd.at_int (Kd.R_reads' HO116.out).2.2 t109 p117 q117; cases e117; replace p117 := eq_true p117; replace q117 := eq_true q117) | ((with_reducible refine gate_dst (N := 54) rfl ?_); refine Kd.R_lit (Kd.int .i64) _ 3 ?hg (N := 54) ?hd (xs := ([] : List Int)) (inner := []) (ok := fun _ => True) (okp := fun _ => True) ?hr ?hp (fun _ hk => hk) trivial (Below.refl _ _) (Nat.le_refl _) (by simp) ?_; (case hd => rfl); (case hg => rfl); (case hr => first | (go_simp; done) | (go_simp; rfl)); (case hp => exact (Reps.none _ _)); intro v119 w37 ho38 hb hg_ hnew_; clear hg_ hnew_; (first | rw [← Ny118.out] at ho38 | (simp only [Int.reduceToNat] at ho38; rw [← Ny118.out] at ho38)); have n0_ := Aside0.mk (Kd.R_elder' (ur HO_4) (Kd.R_base ho38) hb); have n1_ := Aside0.mk (Kd.R_below (ur HO_111001) hb); have n2_ := Aside0.mk (Kd.R_elder' (ur HO116) (Kd.R_base ho38) hb); have n3_ := Aside0.mk (Kd.R_lower (Kd.R_new' (Kd.R_new' ho38 (Kd.R_lt (ur HO_4))) (Kd.R_lt (ur HO116))) (below_size (uB1 HB GE110.out))); have n4_ := Aside0.mk (blk_below (g := gb110) (o := .cells #[.int .i64 t101, .slice Ao9 t102.length co9] 25 (0, 0)) (ub BK110) hb); have n5_ := Aside0.mk (below_step (uB1 HB GE110.out) hb); clear HO_4; clear HO_111001; clear HO116; clear BK110; clear HB; have HO_4 := n0_; have HO_111001 := n1_; have HO116 := n2_; have HO120 := n3_; have BK110 := n4_; have HB := n5_; clear n0_ n1_ n2_ n3_ n4_ n5_; clear hb ho38) | ((with_reducible refine gate_builtin (b := .append) (xs := #[.tmp 54, .tmp 55]) rfl ?_); at_builtin; refine Kd.R_append_rows (Kd.int .i64) (w0 := w) w.heap.size rfl (.tmp 54) (.tmp 55) 28 3 (.int .i64 0) 8 rfl Try.underlying28 info3 rfl (by decide) (by omega) v119 y118 t105 _ _ _ (fun k_ => some k_ ≠ (.slice Ao10 t105.length co10 : Value).ownBlock ∧ some k_ ≠ (.slice (some ad117) t114.length co36 : Value).ownBlock) (fun _ => False) rfl rfl ?aO ?aR (fun _ _ h => h) (fun _ h => h.elim) ?aF ?aB ?aS ?aL ?_; (case aR => repeat (first | exact (Kd.R_reads' HO_4.out).2.2 | (with_reducible refine Kd.C_alloc ?_ _) | (with_reducible refine Kd.C_drewN ?_ _) | (with_reducible refine Kd.C_drew ?_))); (case aB => exact (uB1 HB GE110.out)); (case aF => exact (fun k_ hk => ⟨Kd.fresh' (Kd.R_lt (ur HO_4)) k_ hk, Kd.fresh' (Kd.R_lt (ur HO116)) k_ hk⟩)); (case aO => exact (by (with_reducible repeat (first | apply Kd.R_alloc | apply Kd.R_drewN | apply Kd.R_drew)); exact Kd.R_mono HO120.out (fun _ hk => ⟨hk.1.2, hk.2⟩))); (case aS => exact (below_size (uB1 HB GE110.out))); (case aL => have := LMc28.out; omega); intro v122 w39 ho hb hg hat; rw [← Ny121.out] at ho; have n0_ := Aside0.mk (Kd.R_after (ok := (fun k_ => some k_ ≠ (.slice (some ad117) t114.length co36 : Value).ownBlock)) (by (with_reducible repeat (first | apply Kd.R_alloc | apply Kd.R_drewN | apply Kd.R_drew)); exact Kd.R_mono HO_4.out (fun _ hk => ⟨hk.1.2, hk.2⟩)) hg hat); have n1_ := Aside0.mk (Kd.R_over' (ur HO_111001) (Kd.R_typed (ur HO120)) (by decide) hg); have n2_ := Aside0.mk (blk_grown (g := gb110) (o := .cells #[.int .i64 t101, .slice Ao9 t102.length co9] 25 (0, 0)) (ub BK110) hg (Kd.R_ne HO120.out BK110.out (by decide))); have n3_ := Aside0.mk (Kd.R_after (ok := (fun k_ => some k_ ≠ (.slice Ao10 t105.length co10 : Value).ownBlock)) (by (with_reducible repeat (first | apply Kd.R_alloc | apply Kd.R_drewN | apply Kd.R_drew)); exact Kd.R_mono HO116.out (fun _ hk => ⟨hk.1.2, hk.2⟩)) hg hat); have n4_ := Aside0.mk (hb); have n5_ := Aside0.mk (ho); clear HO_4; clear HO_111001; clear BK110; clear HO116; clear HB; clear HO120; have HO_4 := n0_; have HO_111001 := n1_; have BK110 := n2_; have HO116 := n3_; have HB := n4_; have HO123 := n5_; clear n0_ n1_ n2_ n3_ n4_ n5_; clear ho hb hg hat) | ((with_reducible refine gate_builtin (b := .append) (xs := #[.tmp 56, .tmp 58]) rfl ?_); at_builtin; refine Kd.R_append (Kd.int .i64) (w0 := w) w.heap.size rfl (.tmp 56) (.tmp 58) 28 3 (.int .i64 0) 8 rfl Try.underlying28 info3 rfl (by decide) (by omega) v122 y121 t108 [.int .i64 t108] (fun k_ => some k_ ≠ (.slice Ao10 t105.length co10 : Value).ownBlock ∧ some k_ ≠ (.slice (some ad117) t114.length co36 : Value).ownBlock) (fun _ => False) rfl rfl ?aP (fun _ hk => hk.elim) ?aF ?aO ?aB ?aS ?aL ?_; (case aP => exact rfl); (case aB => exact (uB1 HB GE110.out)); (case aF => exact (fun k_ hk => ⟨Kd.fresh' (Kd.R_lt (ur HO_4)) k_ hk, Kd.fresh' (Kd.R_lt (ur HO116)) k_ hk⟩)); (case aO => exact (ur HO123)); (case aS => exact (below_size (uB1 HB GE110.out))); (case aL => have := LMc29.out; omega); intro v125 w40 ho hb hg hat; rw [← Ny124.out] at ho; have n0_ := Aside0.mk (Kd.R_after (ok := (fun k_ => some k_ ≠ (.slice (some ad117) t114.length co36 : Value).ownBlock)) (ur HO_4) hg hat); have n1_ := Aside0.mk (Kd.R_over' (ur HO_111001) (Kd.R_typed (ur HO123)) (by decide) hg); have n2_ := Aside0.mk (blk_grown (g := gb110) (o := .cells #[.int .i64 t101, .slice Ao9 t102.length co9] 25 (0, 0)) (ub BK110) hg (Kd.R_ne HO123.out BK110.out (by decide))); have n3_ := Aside0.mk (Kd.R_after (ok := (fun k_ => some k_ ≠ (.slice Ao10 t105.length co10 : Value).ownBlock)) (ur HO116) hg hat); have n4_ := Aside0.mk (hb); have n5_ := Aside0.mk (ho); clear HO_4; clear HO_111001; clear BK110; clear HO116; clear HB; clear HO123; have HO_4 := n0_; have HO_111001 := n1_; have BK110 := n2_; have HO116 := n3_; have HB := n4_; have HO126 := n5_; clear n0_ n1_ n2_ n3_ n4_ n5_; clear ho hb hg hat; have hcz41_0 : w40.cell? ⟨gb110, 0, none⟩ = some (.int .i64 t101) := (blk_cell BK110.out 0).trans rfl; have hcz41_1 : w40.cell? ⟨gb110, 1, none⟩ = some (.slice Ao9 t102.length co9) := (blk_cell BK110.out 1).trans rfl; have hfz41_0 := blk_frozen BK110.out 0; have hfz41_1 := blk_frozen BK110.out 1; obtain ⟨Ao42, co42, eo42⟩ := Kd.R_slice HO126.out; subst eo42) | (go_at_call 79; (with_reducible refine (impl_MarkBound.calls kj4 t101 _ _ t102 _ _ y124 t108 t109 t127 _ ?side1 ?side2 ?side3 ?side4 A31.out).mono ?_); (case side1 => repeat (first | exact (Kd.R_reads' HO_111001.out).2.2 | (with_reducible refine Kd.C_alloc ?_ _) | (with_reducible refine Kd.C_drewN ?_ _) | (with_reducible refine Kd.C_drew ?_))); (case side2 => exact (Kd.R_reads' HO_111001.out).2.1); (case side3 => repeat (first | exact (Kd.R_reads' HO126.out).2.2 | (with_reducible refine Kd.C_alloc ?_ _) | (with_reducible refine Kd.C_drewN ?_ _) | (with_reducible refine Kd.C_drew ?_))); (case side4 => exact (Kd.R_reads' HO126.out).2.1); rintro e w43 ⟨rfl, hb⟩; have n0_ := Aside0.mk (Kd.R_below (ur HO_4) hb); have n1_ := Aside0.mk (Kd.R_below (ur HO_111001) hb); have n2_ := Aside0.mk (Kd.R_below (ur HO116) hb); have n3_ := Aside0.mk (Kd.R_below (ur HO126) hb); have n4_ := Aside0.mk (blk_below (g := gb110) (o := .cells #[.int .i64 t101, .slice Ao9 t102.length co9] 25 (0, 0)) (ub BK110) hb); have n5_ := Aside0.mk (below_step (uB1 HB GE110.out) hb); clear HO_4; clear HO_111001; clear HO116; clear HO126; clear BK110; clear HB; have HO_4 := n0_; have HO_111001 := n1_; have HO116 := n2_; have HO126 := n3_; have BK110 := n4_; have HB := n5_; clear n0_ n1_ n2_ n3_ n4_ n5_; (try clear hb); (try clear hb2); (try clear hk); (try clear hi); have hcz44_0 : w43.cell? ⟨gb110, 0, none⟩ = some (.int .i64 t101) := (blk_cell BK110.out 0).trans rfl; have hcz44_1 : w43.cell? ⟨gb110, 1, none⟩ = some (.slice Ao9 t102.length co9) := (blk_cell BK110.out 1).trans rfl; have hfz44_0 := blk_frozen BK110.out 0; have hfz44_1 := blk_frozen BK110.out 1) | (go_at_call 79; (refine (impl_MarkBound.calls kj4 t101 _ _ t102 _ _ ([] : List Int) t108 t109 t128 _ ?side1 ?side2 ?side3 ?side4 A33.out).mono ?_); (case side1 => repeat (first | exact (Kd.R_reads' HO_111001.out).2.2 | (with_reducible refine Kd.C_alloc ?_ _) | (with_reducible refine Kd.C_drewN ?_ _) | (with_reducible refine Kd.C_drew ?_))); (case side2 => exact (Kd.R_reads' HO_111001.out).2.1); (case side3 => exact Kd.C_nil _ _); (case side4 => exact Nat.le_refl _); rintro e w45 ⟨rfl, hb⟩; have n0_ := Aside0.mk (Kd.R_below (ur HO_4) hb); have n1_ := Aside0.mk (Kd.R_below (ur HO_111001) hb); have n2_ := Aside0.mk (Kd.R_below (ur HO116) hb); have n3_ := Aside0.mk (Kd.R_below (ur HO126) hb); have n4_ := Aside0.mk (blk_below (g := gb110) (o := .cells #[.int .i64 t101, .slice Ao9 t102.length co9] 25 (0, 0)) (ub BK110) hb); have n5_ := Aside0.mk (below_step (uB1 HB GE110.out) hb); clear HO_4; clear HO_111001; clear HO116; clear HO126; clear BK110; clear HB; have HO_4 := n0_; have HO_111001 := n1_; have HO116 := n2_; have HO126 := n3_; have BK110 := n4_; have HB := n5_; clear n0_ n1_ n2_ n3_ n4_ n5_; (try clear hb); (try clear hb2); (try clear hk); (try clear hi)))
           go_ret
           exact ⟨by first | rfl | (simp [errW_none, errW_some] <;> rfl) | (simp [*, errW_none, errW_some] <;> rfl) | exact congrArg (fun b_ => Ending.returned (Value.bool b_)) HE_.out, by repeat (first | (with_reducible first | exact HB.out | apply below_alloc | apply pw_below_drewN | apply below_drew1 | refine below_set ?_ GE110.out) | exact HB.out)⟩
          ·
           rw [if_neg c32] at H
           have c32b0 : (t127 == (rd t114 t109)) = false := beq_eq_false_iff_ne.mpr c32
           have c32b1 : (t127 != (rd t114 t109)) = true := bne_iff_ne.mpr c32
           exact absurd H (by simp)
         ·
          rw [if_neg c30] at H
          have c30b0 : decide (t111 ≤ (rd t114 t109)) = false := decide_eq_false c30
          clear c30
          exact absurd H (by simp)
        ·
         rw [if_neg c29] at H
         exact absurd H (by simp)
       ·
        rw [if_neg c28] at H
        exact absurd H (by simp)
      ·
       rw [if_neg c27] at H
       exact absurd H (by simp)
     ·
      rw [if_neg c26] at H
      exact absurd H (by simp)

/-- THE ONE PURE STATEMENT of laws_FnMarkBound: yours. -/
def laws_FnMarkBound.Pure : Prop := ∀ (l0 : List Int), l0.length ≤ maxLen → l0.length * 1 ≤ 140737488351232 → (∀ x ∈ l0, (Lit.int .u8 x).wf = true) → ∃ k, laws_FnMarkBound.f k l0 = some true
theorem laws_FnMarkBound.walk (P : laws_FnMarkBound.Pure) (a0 : Option Addr) (len0 cap0 : Nat) (z0 : List Int) (w : World) (w0 : (a0 = none ∧ len0 = 0 ∧ cap0 = 0 ∧ z0 = []) ∨ ∃ x, a0 = some x ∧ len0 ≤ cap0 ∧ cap0 ≤ maxLen ∧ z0.length = cap0 ∧ (∀ i, i < z0.length → w.cell? (x.add i) = some (.int .u8 (z0.getD i 0))) ∧ ∀ n ∈ z0, (Lit.int .u8 n).wf = true) (y0 : len0 * 1 ≤ 140737488351232) :
  Calls Try.prog 20 #[.slice a0 len0 cap0] w fun e w' => e = .returned (.bool true) ∧ Below w.heap.size w w' := by
 obtain ⟨l0, rfl, hr0, hm0, hw0, hc0⟩ := ReadsInt.ofRowC w0
 obtain ⟨k, h⟩ := P l0 hm0 y0 hw0
 refine (laws_FnMarkBound.calls k _ _ l0 w (Kd.C_of_reads (d := (0 : Int)) (h1 := fun _ => rfl) hr0) hc0 h).mono ?_
 rintro e w' ⟨rfl, hd⟩
 exact ⟨rfl, hd⟩

end Go.Proofs.Ytjmpngfgfddpaaa.P
