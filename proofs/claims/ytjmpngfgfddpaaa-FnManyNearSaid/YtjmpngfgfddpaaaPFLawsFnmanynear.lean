-- written for this claim by a program (wip/gen/myprint.py over the print tool). Not trusted: Lean checks it.
import Derived.Test.YtjmpngfgfddpaaaPx0
import Derived.Test.YtjmpngfgfddpaaaPFImplNearall
import Derived.Test.YtjmpngfgfddpaaaPFSpecDrawmanynear
import Derived.Test.YtjmpngfgfddpaaaPFImplManynear
import Derived.Test.YtjmpngfgfddpaaaPFSpecManynear
namespace Go.Proofs.Ytjmpngfgfddpaaa.P
open Go.RowKit Go.Proofs.YtjmpngfgfddpaaaV.PrintWords Go.Proofs.YtjmpngfgfddpaaaV.PrintLast
set_option linter.unusedVariables false
set_option linter.unusedSimpArgs false

/-! ### laws_FnManyNear: function 15 -/
mutual
def laws_FnManyNear.j0 : Nat → Int → List Int → Int → Int → Int → Int → Bool → Int → List (S33) → Option (Bool)
 | 0, _, _, _, _, _, _, _, _, _ => none
 | k + 1, x4, x5, x6, x7, x8, x9, x46, x110000, x110001 => if x46 = true then (if x6 = x8 then (some (x7 == x9)) else (some false)) else ((impl_NearAll.f k x110000 x110001 x4).bind fun t114 => (laws_FnManyNear.l0 k x5 x6 x7 t114 0))
def laws_FnManyNear.l0 : Nat → List Int → Int → Int → List Int → Int → Option (Bool)
 | 0, _, _, _, _, _ => none
 | k + 1, x5, x6, x7, x10, x11 => if x11 < (x5.length : Int) then (if 0 ≤ x11 then (if 0 ≤ (rd x5 x11) then (if (rd x5 x11) < (x10.length : Int) then (if (rd x10 (rd x5 x11)) < x7 then (some false) else (if x11 < x6 then (if (rd x10 (rd x5 x11)) = x7 then (some false) else (laws_FnManyNear.l0 k x5 x6 x7 x10 (wrap64 (x11 + 1)))) else (laws_FnManyNear.l0 k x5 x6 x7 x10 (wrap64 (x11 + 1))))) else (none)) else (none)) else (none)) else (if x6 < 0 then (if x7 = 99999 then (some true) else (if x6 ≥ 0 then (if 0 ≤ x6 then (if x6 < (x5.length : Int) then (if 0 ≤ (rd x5 x6) then (if (rd x5 x6) < (x10.length : Int) then (some ((rd x10 (rd x5 x6)) == x7)) else (none)) else (none)) else (none)) else (none)) else (some false))) else (if x6 ≥ 0 then (if 0 ≤ x6 then (if x6 < (x5.length : Int) then (if 0 ≤ (rd x5 x6) then (if (rd x5 x6) < (x10.length : Int) then (some ((rd x10 (rd x5 x6)) == x7)) else (none)) else (none)) else (none)) else (none)) else (some false)))
end
def laws_FnManyNear.f (k : Nat) (l0 : List Int) : Option (Bool) := if (l0.length : Int) > 1048576 then (some true) else ((spec_DrawManyNear.f k l0).bind fun bt101 => ((impl_ManyNear.f k bt101.1 bt101.2.1 bt101.2.2.1 bt101.2.2.2).bind fun bt110 => ((spec_ManyNear.f k bt101.1 bt101.2.1 bt101.2.2.1 bt101.2.2.2).bind fun bt112 => (if bt110.1 = bt112.1 then (if bt110.2 = bt112.2 then (laws_FnManyNear.j0 k bt101.2.2.1 bt101.2.2.2 bt110.1 bt110.2 bt112.1 bt112.2 (decide (bt110.2 < 0)) bt101.1 bt101.2.1) else (laws_FnManyNear.j0 k bt101.2.2.1 bt101.2.2.2 bt110.1 bt110.2 bt112.1 bt112.2 true bt101.1 bt101.2.1)) else (laws_FnManyNear.j0 k bt101.2.2.1 bt101.2.2.2 bt110.1 bt110.2 bt112.1 bt112.2 true bt101.1 bt101.2.1)))))
set_option maxHeartbeats 8000000 in
set_option maxRecDepth 100000 in
theorem laws_FnManyNear.calls (k : Nat) (A0 : Option Addr) (c0 : Nat) (l0 : List Int) (w : World) (hr0 : Kd.C (Kd.int .u8) w A0 l0.length l0) (hc0 : l0.length ≤ c0) (h : laws_FnManyNear.f k l0 = some true) :
  Calls Try.prog 15 #[.slice A0 l0.length c0] w fun e w' => e = .returned (.bool true) ∧ Below w.heap.size w w' := by
 have hu25 := Try.underlying25
 have HR0 := Aside0.mk hr0
 have HC0 := Aside0.mk hc0
 clear hr0 hc0
 have HB := Aside0.mk (Below.refl w.heap.size w)
 have H : (if (l0.length : Int) > 1048576 then (some true) else ((spec_DrawManyNear.f k l0).bind fun bt101 => ((impl_ManyNear.f k bt101.1 bt101.2.1 bt101.2.2.1 bt101.2.2.2).bind fun bt110 => ((spec_ManyNear.f k bt101.1 bt101.2.1 bt101.2.2.1 bt101.2.2.2).bind fun bt112 => (if bt110.1 = bt112.1 then (if bt110.2 = bt112.2 then (laws_FnManyNear.j0 k bt101.2.2.1 bt101.2.2.2 bt110.1 bt110.2 bt112.1 bt112.2 (decide (bt110.2 < 0)) bt101.1 bt101.2.1) else (laws_FnManyNear.j0 k bt101.2.2.1 bt101.2.2.2 bt110.1 bt110.2 bt112.1 bt112.2 true bt101.1 bt101.2.1)) else (laws_FnManyNear.j0 k bt101.2.2.1 bt101.2.2.2 bt110.1 bt110.2 bt112.1 bt112.2 true bt101.1 bt101.2.1)))))) = some true := h
 clear h
 by_cases c2 : (l0.length : Int) > 1048576
 ·
  rw [if_pos c2] at H
  have c2b0 : decide (1048576 < (l0.length : Int)) = true := decide_eq_true c2
  have c2b1 : decide (1048576 < l0.length) = true := decide_eq_true (by omega)
  clear c2
  clear H
  go_enter Try.func15, Try.ntmps15
  go_wp2
  go_ret
  exact ⟨by first | rfl | (simp [errW_none, errW_some] <;> rfl) | (simp [*, errW_none, errW_some] <;> rfl) | exact congrArg (fun b_ => Ending.returned (Value.bool b_)) HE_.out, by repeat (first | (with_reducible first | exact HB.out | apply below_alloc | apply pw_below_drewN | apply below_drew1) | exact HB.out)⟩
 ·
  rw [if_neg c2] at H
  have c2b0 : decide (1048576 < (l0.length : Int)) = false := decide_eq_false c2
  have c2b1 : decide (1048576 < l0.length) = false := decide_eq_false (by omega)
  clear c2
  replace H := Option.bind_eq_some_iff.mp H
  obtain ⟨⟨t101, t102, t105, t106⟩, A30, H⟩ := H
  replace H : ((impl_ManyNear.f k t101 t102 t105 t106).bind fun bt110 => ((spec_ManyNear.f k t101 t102 t105 t106).bind fun bt112 => (if bt110.1 = bt112.1 then (if bt110.2 = bt112.2 then (laws_FnManyNear.j0 k t105 t106 bt110.1 bt110.2 bt112.1 bt112.2 (decide (bt110.2 < 0)) t101 t102) else (laws_FnManyNear.j0 k t105 t106 bt110.1 bt110.2 bt112.1 bt112.2 true t101 t102)) else (laws_FnManyNear.j0 k t105 t106 bt110.1 bt110.2 bt112.1 bt112.2 true t101 t102)))) = some true := H
  have A3 := Aside0.mk A30
  clear A30
  replace H := Option.bind_eq_some_iff.mp H
  obtain ⟨⟨t110, t111⟩, A40, H⟩ := H
  replace H : ((spec_ManyNear.f k t101 t102 t105 t106).bind fun bt112 => (if t110 = bt112.1 then (if t111 = bt112.2 then (laws_FnManyNear.j0 k t105 t106 t110 t111 bt112.1 bt112.2 (decide (t111 < 0)) t101 t102) else (laws_FnManyNear.j0 k t105 t106 t110 t111 bt112.1 bt112.2 true t101 t102)) else (laws_FnManyNear.j0 k t105 t106 t110 t111 bt112.1 bt112.2 true t101 t102))) = some true := H
  have A4 := Aside0.mk A40
  clear A40
  replace H := Option.bind_eq_some_iff.mp H
  obtain ⟨⟨t112, t113⟩, A50, H⟩ := H
  replace H : (if t110 = t112 then (if t111 = t113 then (laws_FnManyNear.j0 k t105 t106 t110 t111 t112 t113 (decide (t111 < 0)) t101 t102) else (laws_FnManyNear.j0 k t105 t106 t110 t111 t112 t113 true t101 t102)) else (laws_FnManyNear.j0 k t105 t106 t110 t111 t112 t113 true t101 t102)) = some true := H
  have A5 := Aside0.mk A50
  clear A50
  have HC6 := Aside0.mk H
  clear H
  go_enter Try.func15, Try.ntmps15
  go_upto_region 6 with (first | ((with_reducible refine gate_callee (f := 68) rfl ?_); refine goesL_ (some 17) rfl rfl Try.func68 (by kernel_rfl) rfl #[.slice A0 l0.length c0] rfl (by (try simp only [List.map_toArray, List.map_cons, List.map_nil]); first | done | rfl | (simp only [List.length_drop, List.length_take]; rfl)) ?_; (with_reducible refine (spec_DrawManyNear.calls k _ _ l0 t101 t102 t105 t106 _ ?side1 ?side2 A3.out).mono ?_); (case side1 => repeat (first | exact HR0.out | (with_reducible refine Kd.C_alloc ?_ _) | (with_reducible refine Kd.C_drewN ?_ _) | (with_reducible refine Kd.C_drew ?_))); (case side2 => exact HC0.out); rintro e w7 ⟨v103, v107, rfl, ho0, ho1, hb⟩; refine ⟨_, rfl, ?_⟩; have n0_ := Aside0.mk (Kd.R_lower ho0 (below_size (by repeat (first | (with_reducible first | exact HB.out | apply below_alloc | apply pw_below_drewN | apply below_drew1) | exact HB.out)))); have n1_ := Aside0.mk (Kd.R_lower ho1 (below_size (by repeat (first | (with_reducible first | exact HB.out | apply below_alloc | apply pw_below_drewN | apply below_drew1) | exact HB.out)))); have n2_ := Aside0.mk (below_step (by repeat (first | (with_reducible first | exact HB.out | apply below_alloc | apply pw_below_drewN | apply below_drew1) | exact HB.out)) hb); clear HB; have HO104 := n0_; have HO108 := n1_; have HB := n2_; clear n0_ n1_ n2_; (try clear hb); (try clear hb2); (try clear hk); (try clear hi); (try clear ho0); (try clear ho1)) | ((with_reducible refine gate_dst (N := 3) rfl ?_); refine box_event ?hg (N := 3) ?hd (cs := #[.int .i64 0, .slice none 0 0]) (t := 25) ?hr ?_; (case hd => rfl); (case hg => rfl); (case hr => first | (go_simp; done) | (go_simp; rfl)); intro gb109 hg w8 hbox hb; have n0_ := Aside0.mk (Kd.R_below (by (with_reducible repeat (first | apply Kd.R_alloc | apply Kd.R_drewN | apply Kd.R_drew)); exact HO104.out) hb); have n1_ := Aside0.mk (Kd.R_below (by (with_reducible repeat (first | apply Kd.R_alloc | apply Kd.R_drewN | apply Kd.R_drew)); exact HO108.out) hb); have n2_ := Aside0.mk (below_step (by repeat (first | (with_reducible first | exact HB.out | apply below_alloc | apply pw_below_drewN | apply below_drew1) | exact HB.out)) hb); have n3_ := Aside0.mk (hbox); have n4_ := Aside0.mk ((by rw [hg]; exact (below_size (by repeat (first | (with_reducible first | exact HB.out | apply below_alloc | apply pw_below_drewN | apply below_drew1) | exact HB.out))) : w.heap.size ≤ gb109)); have n5_ := Aside0.mk ((by rw [hg]; exact (below_size (by repeat (first | (with_reducible first | exact HB.out | apply below_alloc | apply pw_below_drewN | apply below_drew1) | exact HB.out))) : w.heap.size ≤ gb109)); clear HO104; clear HO108; clear HB; have HO104 := n0_; have HO108 := n1_; have HB := n2_; have BK109 := n3_; have GW109 := n4_; have GE109 := n5_; clear n0_ n1_ n2_ n3_ n4_ n5_; clear hb hbox hg; have hcz9_0 : w8.cell? ⟨gb109, 0, none⟩ = some (.int .i64 0) := (blk_cell BK109.out 0).trans rfl; have hcz9_1 : w8.cell? ⟨gb109, 1, none⟩ = some (.slice none 0 0) := (blk_cell BK109.out 1).trans rfl; have hfz9_0 := blk_frozen BK109.out 0; have hfz9_1 := blk_frozen BK109.out 1; obtain ⟨Ao10, co10, eo10⟩ := Kd.R_slice HO104.out; subst eo10; obtain ⟨Ao11, co11, eo11⟩ := Kd.R_slice HO108.out; subst eo11) | ((with_reducible refine gate_callee (f := 69) rfl ?_); refine goesL_ (some 25) rfl rfl Try.func69 (by kernel_rfl) rfl #[.agg #[.int .i64 t101, .slice Ao10 t102.length co10], .int .i64 t105, .slice Ao11 t106.length co11] rfl (by (try simp only [List.map_toArray, List.map_cons, List.map_nil]); first | done | rfl | (simp only [List.length_drop, List.length_take]; rfl)) ?_; (with_reducible refine (impl_ManyNear.calls k t101 _ _ t102 t105 _ _ t106 t110 t111 _ ?side1 ?side2 ?side3 ?side4 A4.out).mono ?_); (case side1 => refine (Kd.R_reads' (e := 33) (base := w.heap.size) (ok := fun k_ => True) (n := t102.length) (c := co10) ?_).2.2; exact (by (with_reducible repeat (first | apply Kd.R_alloc | apply Kd.R_drewN | apply Kd.R_drew)); exact (Kd.R_mono (Kd.R_far (p := ⟨gb109, 1, none⟩) (Kd.R_far (p := ⟨gb109, 0, none⟩) (Kd.R_types HO104.out BK109.out (by decide)) (fun _ hk => hk.2) (.int .i64 t101)) (fun _ hk => hk.2) (.slice Ao10 t102.length co10)) (fun _ h_ => h_.1)))); (case side2 => exact (Kd.R_reads' HO104.out).2.1); (case side3 => refine (Kd.R_reads' (e := 3) (base := w.heap.size) (ok := fun k_ => True) (n := t106.length) (c := co11) ?_).2.2; exact (by (with_reducible repeat (first | apply Kd.R_alloc | apply Kd.R_drewN | apply Kd.R_drew)); exact (Kd.R_mono (Kd.R_far (p := ⟨gb109, 1, none⟩) (Kd.R_far (p := ⟨gb109, 0, none⟩) (Kd.R_types HO108.out BK109.out (by decide)) (fun _ hk => hk.2) (.int .i64 t101)) (fun _ hk => hk.2) (.slice Ao10 t102.length co10)) (fun _ h_ => h_.1)))); (case side4 => exact (Kd.R_reads' HO108.out).2.1); rintro e w12 ⟨rfl, hb⟩; refine ⟨_, rfl, ?_⟩; have n0_ := Aside0.mk (Kd.R_below (by (with_reducible repeat (first | apply Kd.R_alloc | apply Kd.R_drewN | apply Kd.R_drew)); exact (Kd.R_mono (Kd.R_far (p := ⟨gb109, 1, none⟩) (Kd.R_far (p := ⟨gb109, 0, none⟩) (Kd.R_types HO104.out BK109.out (by decide)) (fun _ hk => hk.2) (.int .i64 t101)) (fun _ hk => hk.2) (.slice Ao10 t102.length co10)) (fun _ h_ => h_.1))) hb); have n1_ := Aside0.mk (Kd.R_below (by (with_reducible repeat (first | apply Kd.R_alloc | apply Kd.R_drewN | apply Kd.R_drew)); exact (Kd.R_mono (Kd.R_far (p := ⟨gb109, 1, none⟩) (Kd.R_far (p := ⟨gb109, 0, none⟩) (Kd.R_types HO108.out BK109.out (by decide)) (fun _ hk => hk.2) (.int .i64 t101)) (fun _ hk => hk.2) (.slice Ao10 t102.length co10)) (fun _ h_ => h_.1))) hb); have n2_ := Aside0.mk (blk_below (g := gb109) (o := .cells #[.int .i64 t101, .slice Ao10 t102.length co10] 25 (0, 0)) (by (with_reducible repeat (first | refine blk_drewN ?_ _ | refine blk_drew ?_ | refine blk_alloc ?_ _)); refine blk_put (cs := #[.int .i64 t101, .slice none 0 0]) ?_ 1 _ rfl; (with_reducible repeat (first | refine blk_drewN ?_ _ | refine blk_drew ?_ | refine blk_alloc ?_ _)); refine blk_put (cs := #[.int .i64 0, .slice none 0 0]) ?_ 0 _ rfl; (with_reducible repeat (first | refine blk_drewN ?_ _ | refine blk_drew ?_ | refine blk_alloc ?_ _)); exact BK109.out) hb); have n3_ := Aside0.mk (below_step (by repeat (first | (with_reducible first | exact HB.out | apply below_alloc | apply pw_below_drewN | apply below_drew1 | refine below_set ?_ GE109.out) | exact HB.out)) hb); clear HO104; clear HO108; clear BK109; clear HB; have HO104 := n0_; have HO108 := n1_; have BK109 := n2_; have HB := n3_; clear n0_ n1_ n2_ n3_; (try clear hb); (try clear hb2); (try clear hk); (try clear hi); have hcz13_0 : w12.cell? ⟨gb109, 0, none⟩ = some (.int .i64 t101) := (blk_cell BK109.out 0).trans rfl; have hcz13_1 : w12.cell? ⟨gb109, 1, none⟩ = some (.slice Ao10 t102.length co10) := (blk_cell BK109.out 1).trans rfl; have hfz13_0 := blk_frozen BK109.out 0; have hfz13_1 := blk_frozen BK109.out 1) | ((with_reducible refine gate_callee (f := 70) rfl ?_); refine goesL_ (some 32) rfl rfl Try.func70 (by kernel_rfl) rfl #[.agg #[.int .i64 t101, .slice Ao10 t102.length co10], .int .i64 t105, .slice Ao11 t106.length co11] rfl (by (try simp only [List.map_toArray, List.map_cons, List.map_nil]); first | done | rfl | (simp only [List.length_drop, List.length_take]; rfl)) ?_; (with_reducible refine (spec_ManyNear.calls k t101 _ _ t102 t105 _ _ t106 t112 t113 _ ?side1 ?side2 ?side3 ?side4 A5.out).mono ?_); (case side1 => repeat (first | exact (Kd.R_reads' HO104.out).2.2 | (with_reducible refine Kd.C_alloc ?_ _) | (with_reducible refine Kd.C_drewN ?_ _) | (with_reducible refine Kd.C_drew ?_))); (case side2 => exact (Kd.R_reads' HO104.out).2.1); (case side3 => repeat (first | exact (Kd.R_reads' HO108.out).2.2 | (with_reducible refine Kd.C_alloc ?_ _) | (with_reducible refine Kd.C_drewN ?_ _) | (with_reducible refine Kd.C_drew ?_))); (case side4 => exact (Kd.R_reads' HO108.out).2.1); rintro e w14 ⟨rfl, hb⟩; refine ⟨_, rfl, ?_⟩; have n0_ := Aside0.mk (Kd.R_below (by (with_reducible repeat (first | apply Kd.R_alloc | apply Kd.R_drewN | apply Kd.R_drew)); exact HO104.out) hb); have n1_ := Aside0.mk (Kd.R_below (by (with_reducible repeat (first | apply Kd.R_alloc | apply Kd.R_drewN | apply Kd.R_drew)); exact HO108.out) hb); have n2_ := Aside0.mk (blk_below (g := gb109) (o := .cells #[.int .i64 t101, .slice Ao10 t102.length co10] 25 (0, 0)) (by (with_reducible repeat (first | refine blk_drewN ?_ _ | refine blk_drew ?_ | refine blk_alloc ?_ _)); exact BK109.out) hb); have n3_ := Aside0.mk (below_step (by repeat (first | (with_reducible first | exact HB.out | apply below_alloc | apply pw_below_drewN | apply below_drew1 | refine below_set ?_ GE109.out) | exact HB.out)) hb); clear HO104; clear HO108; clear BK109; clear HB; have HO104 := n0_; have HO108 := n1_; have BK109 := n2_; have HB := n3_; clear n0_ n1_ n2_ n3_; (try clear hb); (try clear hb2); (try clear hk); (try clear hi)))
  (try simp only [Act.put, List.setIfInBounds_toArray, List.set_cons_zero, List.set_cons_succ])
  go_cut [46] (fun v46 wc => ∃ (kq : Nat) (x46_5 : Bool), v46 = .bool x46_5 ∧ Aside0 (laws_FnManyNear.j0 kq t105 t106 t110 t111 t112 t113 x46_5 t101 t102 = some true) ∧ Aside0 (kq ≤ k) ∧ Aside0 (Kd.R (Kd.int .i64) 3 wc w.heap.size (fun _ => True) (.slice Ao11 t106.length co11) t106) ∧ Aside0 (Kd.R k33 33 wc w.heap.size (fun _ => True) (.slice Ao10 t102.length co10) t102) ∧ Aside0 (wc.heap[gb109]? = some (.cells #[.int .i64 t101, (.slice Ao10 t102.length co10)] 25 (0, 0))) ∧ Aside0 (Below w.heap.size w wc))
  case first =>
   have H := HC6.out
   clear HC6
   by_cases c15 : t110 = t112
   ·
    rw [if_pos c15] at H
    have c15b0 : (t110 == t112) = true := beq_iff_eq.mpr c15
    have c15b1 : (t110 != t112) = false := bne_eq_false_iff_eq.mpr c15
    clear c15
    (first | rw [c15b0] | (simp only [i64_w, i32_w]; rw [c15b0]) | skip)
    by_cases c16 : t111 = t113
    ·
     rw [if_pos c16] at H
     have c16b0 : (t111 == t113) = true := beq_iff_eq.mpr c16
     have c16b1 : (t111 != t113) = false := bne_eq_false_iff_eq.mpr c16
     clear c16
     have H' := Aside0.mk H
     clear H
     go_wp2
     go_meet
     case rel => exact ⟨_, (decide (t111 < 0)), (by first | rfl | (simp; done) | (simp [*]; done)), H', ⟨by first | omega | exact Nat.le_refl _⟩, ⟨by (with_reducible repeat (first | apply Kd.R_alloc | apply Kd.R_drewN | apply Kd.R_drew)); exact HO108.out⟩, ⟨by (with_reducible repeat (first | apply Kd.R_alloc | apply Kd.R_drewN | apply Kd.R_drew)); exact HO104.out⟩, ⟨by (with_reducible repeat (first | refine blk_drewN ?_ _ | refine blk_drew ?_ | refine blk_alloc ?_ _)); exact BK109.out⟩, ⟨by repeat (first | (with_reducible first | exact HB.out | apply below_alloc | apply pw_below_drewN | apply below_drew1 | refine below_set ?_ GE109.out) | exact HB.out)⟩⟩
    ·
     rw [if_neg c16] at H
     have c16b0 : (t111 == t113) = false := beq_eq_false_iff_ne.mpr c16
     have c16b1 : (t111 != t113) = true := bne_iff_ne.mpr c16
     have H' := Aside0.mk H
     clear H
     go_wp2
     go_meet
     case rel => exact ⟨_, (true), (by first | rfl | (simp; done) | (simp [*]; done)), H', ⟨by first | omega | exact Nat.le_refl _⟩, ⟨by (with_reducible repeat (first | apply Kd.R_alloc | apply Kd.R_drewN | apply Kd.R_drew)); exact HO108.out⟩, ⟨by (with_reducible repeat (first | apply Kd.R_alloc | apply Kd.R_drewN | apply Kd.R_drew)); exact HO104.out⟩, ⟨by (with_reducible repeat (first | refine blk_drewN ?_ _ | refine blk_drew ?_ | refine blk_alloc ?_ _)); exact BK109.out⟩, ⟨by repeat (first | (with_reducible first | exact HB.out | apply below_alloc | apply pw_below_drewN | apply below_drew1 | refine below_set ?_ GE109.out) | exact HB.out)⟩⟩
   ·
    rw [if_neg c15] at H
    have c15b0 : (t110 == t112) = false := beq_eq_false_iff_ne.mpr c15
    have c15b1 : (t110 != t112) = true := bne_iff_ne.mpr c15
    (first | rw [c15b0] | (simp only [i64_w, i32_w]; rw [c15b0]) | skip)
    have H' := Aside0.mk H
    clear H
    go_wp2
    go_meet
    case rel => exact ⟨_, (true), (by first | rfl | (simp; done) | (simp [*]; done)), H', ⟨by first | omega | exact Nat.le_refl _⟩, ⟨by (with_reducible repeat (first | apply Kd.R_alloc | apply Kd.R_drewN | apply Kd.R_drew)); exact HO108.out⟩, ⟨by (with_reducible repeat (first | apply Kd.R_alloc | apply Kd.R_drewN | apply Kd.R_drew)); exact HO104.out⟩, ⟨by (with_reducible repeat (first | refine blk_drewN ?_ _ | refine blk_drew ?_ | refine blk_alloc ?_ _)); exact BK109.out⟩, ⟨by repeat (first | (with_reducible first | exact HB.out | apply below_alloc | apply pw_below_drewN | apply below_drew1 | refine below_set ?_ GE109.out) | exact HB.out)⟩⟩
  case rest =>
   clear HC6
   try clear c1
   try clear c2
   try clear c2b0
   try clear c2b1
   try clear p2
   try clear c6
   try clear c7
   try clear c15
   try clear c15b0
   try clear c15b1
   try clear c16
   try clear c16b0
   try clear c16b1
   try clear hcz13_0
   try clear hcz13_1
   try clear hcz9_0
   try clear hcz9_1
   try clear hfz13_0
   try clear hfz13_1
   try clear hfz9_0
   try clear hfz9_1
   obtain ⟨kq, x46_5, rfl, HA, HJ5, HO_5, HO_110001, BK109, HB⟩ := hcut
   cases kq with
   | zero => exact absurd HA.out (by simp [laws_FnManyNear.j0])
   | succ kj5 =>
    have H := HA.out
    clear HA
    simp only [laws_FnManyNear.j0] at H
    by_cases c17 : x46_5 = true
    ·
     subst c17
     have H1 : (if t110 = t112 then (some (t111 == t113)) else (some false)) = some true := by rw [if_pos rfl] at H; exact H
     clear H
     have H := H1
     clear H1
     by_cases c18 : t110 = t112
     ·
      rw [if_pos c18] at H
      have c18b0 : (t110 == t112) = true := beq_iff_eq.mpr c18
      have c18b1 : (t110 != t112) = false := bne_eq_false_iff_eq.mpr c18
      clear c18
      have HE_ := Aside0.mk (Option.some.inj H)
      clear H
      go_wp2
      go_ret
      exact ⟨by first | rfl | (simp [errW_none, errW_some] <;> rfl) | (simp [*, errW_none, errW_some] <;> rfl) | exact congrArg (fun b_ => Ending.returned (Value.bool b_)) HE_.out, by repeat (first | (with_reducible first | exact HB.out | apply below_alloc | apply pw_below_drewN | apply below_drew1 | refine below_set ?_ GE109.out) | exact HB.out)⟩
     ·
      rw [if_neg c18] at H
      have c18b0 : (t110 == t112) = false := beq_eq_false_iff_ne.mpr c18
      have c18b1 : (t110 != t112) = true := bne_iff_ne.mpr c18
      exact absurd H (by simp)
    ·
     replace c17 := Bool.eq_false_iff.mpr c17
     subst c17
     have H1 : ((impl_NearAll.f kj5 t101 t102 t105).bind fun t114 => (laws_FnManyNear.l0 kj5 t106 t110 t111 t114 0)) = some true := by rw [if_neg (show ¬ (false = true) by decide)] at H; exact H
     clear H
     have H := H1
     clear H1
     replace H := Option.bind_eq_some_iff.mp H
     obtain ⟨t114, A190, H⟩ := H
     replace H : (laws_FnManyNear.l0 kj5 t106 t110 t111 t114 0) = some true := H
     have A19 := Aside0.mk A190
     clear A190
     have H' := Aside0.mk H
     clear H
     have hcz20_0 : wc.cell? ⟨gb109, 0, none⟩ = some (.int .i64 t101) := (blk_cell BK109.out 0).trans rfl
     have hcz20_1 : wc.cell? ⟨gb109, 1, none⟩ = some (.slice Ao10 t102.length co10) := (blk_cell BK109.out 1).trans rfl
     have hfz20_0 := blk_frozen BK109.out 0
     have hfz20_1 := blk_frozen BK109.out 1
     go_wp2_with (first | ((with_reducible refine gate_callee (f := 63) rfl ?_); refine goesL_ (some 57) rfl rfl Try.func63 (by kernel_rfl) rfl #[.agg #[.int .i64 t101, .slice Ao10 t102.length co10], .int .i64 t105] rfl (by (try simp only [List.map_toArray, List.map_cons, List.map_nil]); first | done | rfl | (simp only [List.length_drop, List.length_take]; rfl)) ?_; (with_reducible refine (impl_NearAll.calls kj5 t101 _ _ t102 t105 t114 _ ?side1 ?side2 A19.out).mono ?_); (case side1 => repeat (first | exact (Kd.R_reads' HO_110001.out).2.2 | (with_reducible refine Kd.C_alloc ?_ _) | (with_reducible refine Kd.C_drewN ?_ _) | (with_reducible refine Kd.C_drew ?_))); (case side2 => exact (Kd.R_reads' HO_110001.out).2.1); rintro e w21 ⟨v115, rfl, ho0, hb⟩; refine ⟨_, rfl, ?_⟩; have n0_ := Aside0.mk (Kd.R_elder' (by (with_reducible repeat (first | apply Kd.R_alloc | apply Kd.R_drewN | apply Kd.R_drew)); exact HO_5.out) (Kd.R_base ho0) hb); have n1_ := Aside0.mk (Kd.R_below (by (with_reducible repeat (first | apply Kd.R_alloc | apply Kd.R_drewN | apply Kd.R_drew)); exact HO_110001.out) hb); have n2_ := Aside0.mk (Kd.R_lower (Kd.R_new' ho0 (Kd.R_lt (by (with_reducible repeat (first | apply Kd.R_alloc | apply Kd.R_drewN | apply Kd.R_drew)); exact HO_5.out))) (below_size (by repeat (first | (with_reducible first | exact HB.out | apply below_alloc | apply pw_below_drewN | apply below_drew1 | refine below_set ?_ GE109.out) | exact HB.out)))); have n3_ := Aside0.mk (blk_below (g := gb109) (o := .cells #[.int .i64 t101, .slice Ao10 t102.length co10] 25 (0, 0)) (by (with_reducible repeat (first | refine blk_drewN ?_ _ | refine blk_drew ?_ | refine blk_alloc ?_ _)); exact BK109.out) hb); have n4_ := Aside0.mk (below_step (by repeat (first | (with_reducible first | exact HB.out | apply below_alloc | apply pw_below_drewN | apply below_drew1 | refine below_set ?_ GE109.out) | exact HB.out)) hb); clear HO_5; clear HO_110001; clear BK109; clear HB; have HO_5 := n0_; have HO_110001 := n1_; have HO116 := n2_; have BK109 := n3_; have HB := n4_; clear n0_ n1_ n2_ n3_ n4_; (try clear hb); (try clear hb2); (try clear hk); (try clear hi); (try clear ho0)))
     go_loopg [11] kj5 (fun kq v11 w' => ∃ (x11_2 : Int), v11 = .int .i64 x11_2 ∧ Aside0 (laws_FnManyNear.l0 kq t106 t110 t111 t114 x11_2 = some true) ∧ Aside0 (kq ≤ kj5) ∧ Aside0 (Kd.R (Kd.int .i64) 3 w' w.heap.size (fun k_ => some k_ ≠ (v115 : Value).ownBlock) (.slice Ao11 t106.length co11) t106) ∧ Aside0 (Kd.R (Kd.int .i64) 3 w' w.heap.size (fun k_ => some k_ ≠ ((.slice Ao11 t106.length co11) : Value).ownBlock) v115 t114) ∧ Aside0 (Kd.R k33 33 w' w.heap.size (fun _ => True) (.slice Ao10 t102.length co10) t102) ∧ Aside0 (w'.heap[gb109]? = some (.cells #[.int .i64 t101, (.slice Ao10 t102.length co10)] 25 (0, 0))) ∧ Aside0 (Below w.heap.size w w'))
     case atStart => exact ⟨(0), (by first | rfl | (simp; done) | (simp [*]; done)), H', ⟨Nat.le_refl _⟩, ⟨by (with_reducible repeat (first | apply Kd.R_alloc | apply Kd.R_drewN | apply Kd.R_drew)); exact Kd.R_mono HO_5.out (fun _ hk => hk.2)⟩, ⟨by (with_reducible repeat (first | apply Kd.R_alloc | apply Kd.R_drewN | apply Kd.R_drew)); exact Kd.R_mono HO116.out (fun _ hk => hk.2)⟩, ⟨by (with_reducible repeat (first | apply Kd.R_alloc | apply Kd.R_drewN | apply Kd.R_drew)); exact HO_110001.out⟩, ⟨by (with_reducible repeat (first | refine blk_drewN ?_ _ | refine blk_drew ?_ | refine blk_alloc ?_ _)); exact BK109.out⟩, ⟨by repeat (first | (with_reducible first | exact HB.out | apply below_alloc | apply pw_below_drewN | apply below_drew1 | refine below_set ?_ GE109.out) | exact HB.out)⟩⟩
     case round =>
      clear H'
      try clear c1
      try clear c2
      try clear c2b0
      try clear c2b1
      try clear p2
      try clear c6
      try clear c7
      try clear c15
      try clear c15b0
      try clear c15b1
      try clear c16
      try clear c16b0
      try clear c16b1
      try clear c17
      try clear c18
      try clear c18b0
      try clear c18b1
      try clear hcz13_0
      try clear hcz13_1
      try clear hcz20_0
      try clear hcz20_1
      try clear hcz9_0
      try clear hcz9_1
      try clear hfz13_0
      try clear hfz13_1
      try clear hfz20_0
      try clear hfz20_1
      try clear hfz9_0
      try clear hfz9_1
      try clear p2
      obtain ⟨x11_2, rfl, HA, HK2, HO_5, HO_10, HO_110001, BK109, HB⟩ := hrel
      cases gk with
      | zero => exact absurd HA.out (by simp [laws_FnManyNear.l0])
      | succ k2 =>
       have H := HA.out
       clear HA
       simp only [laws_FnManyNear.l0] at H
       by_cases c22 : x11_2 < (t106.length : Int)
       ·
        rw [if_pos c22] at H
        have c22b0 : decide (x11_2 < (t106.length : Int)) = true := decide_eq_true c22
        clear c22
        by_cases c23 : 0 ≤ x11_2
        ·
         rw [if_pos c23] at H
         have c23b0 : decide (0 ≤ x11_2) = true := decide_eq_true c23
         clear c23
         by_cases c24 : 0 ≤ (rd t106 x11_2)
         ·
          rw [if_pos c24] at H
          have c24b0 : decide (0 ≤ (rd t106 x11_2)) = true := decide_eq_true c24
          clear c24
          by_cases c25 : (rd t106 x11_2) < (t114.length : Int)
          ·
           rw [if_pos c25] at H
           have c25b0 : decide ((rd t106 x11_2) < (t114.length : Int)) = true := decide_eq_true c25
           clear c25
           by_cases c26 : (rd t114 (rd t106 x11_2)) < t111
           ·
            rw [if_pos c26] at H
            have c26b0 : decide ((rd t114 (rd t106 x11_2)) < t111) = true := decide_eq_true c26
            clear c26
            exact absurd H (by simp)
           ·
            rw [if_neg c26] at H
            have c26b0 : decide ((rd t114 (rd t106 x11_2)) < t111) = false := decide_eq_false c26
            clear c26
            by_cases c27 : x11_2 < t110
            ·
             rw [if_pos c27] at H
             have c27b0 : decide (x11_2 < t110) = true := decide_eq_true c27
             clear c27
             by_cases c28 : (rd t114 (rd t106 x11_2)) = t111
             ·
              rw [if_pos c28] at H
              have c28b0 : ((rd t114 (rd t106 x11_2)) == t111) = true := beq_iff_eq.mpr c28
              have c28b1 : ((rd t114 (rd t106 x11_2)) != t111) = false := bne_eq_false_iff_eq.mpr c28
              clear c28
              exact absurd H (by simp)
             ·
              rw [if_neg c28] at H
              have c28b0 : ((rd t114 (rd t106 x11_2)) == t111) = false := beq_eq_false_iff_ne.mpr c28
              have c28b1 : ((rd t114 (rd t106 x11_2)) != t111) = true := bne_iff_ne.mpr c28
              have H' := Aside0.mk H
              clear H
              have p117 : 0 ≤ (x11_2 : Int) := of_decide_eq_true (by first | (with_reducible assumption) | assumption)
              have q117 : x11_2 < (t106.length : Int) := of_decide_eq_true (by first | (with_reducible assumption) | assumption)
              obtain ⟨ad117, e117, hx117_0⟩ := Kd.at_int (Kd.R_reads' HO_5.out).2.2 x11_2 p117 q117
              cases e117
              replace p117 := eq_true p117
              replace q117 := eq_true q117
              obtain ⟨Ao29, co29, eo29⟩ := Kd.R_slice HO_10.out
              subst eo29
              have p118 : 0 ≤ ((rd t106 x11_2) : Int) := of_decide_eq_true (by first | (with_reducible assumption) | assumption)
              have q118 : (rd t106 x11_2) < (t114.length : Int) := of_decide_eq_true (by first | (with_reducible assumption) | assumption)
              obtain ⟨ad118, e118, hx118_0⟩ := Kd.at_int (Kd.R_reads' HO_10.out).2.2 (rd t106 x11_2) p118 q118
              cases e118
              replace p118 := eq_true p118
              replace q118 := eq_true q118
              have p119 : 0 ≤ (x11_2 : Int) := of_decide_eq_true (by first | (with_reducible assumption) | assumption)
              have q119 : x11_2 < (t106.length : Int) := of_decide_eq_true (by first | (with_reducible assumption) | assumption)
              obtain ⟨ad119, e119, hx119_0⟩ := Kd.at_int (Kd.R_reads' HO_5.out).2.2 x11_2 p119 q119
              obtain rfl : ad117 = ad119 := (by injection e119)
              replace p119 := eq_true p119
              replace q119 := eq_true q119
              have p120 : 0 ≤ ((rd t106 x11_2) : Int) := of_decide_eq_true (by first | (with_reducible assumption) | assumption)
              have q120 : (rd t106 x11_2) < (t114.length : Int) := of_decide_eq_true (by first | (with_reducible assumption) | assumption)
              obtain ⟨ad120, e120, hx120_0⟩ := Kd.at_int (Kd.R_reads' HO_10.out).2.2 (rd t106 x11_2) p120 q120
              obtain rfl : ad118 = ad120 := (by injection e120)
              replace p120 := eq_true p120
              replace q120 := eq_true q120
              go_wp2
              go_roundg k2
              case measure => have := HJ5.out; have := HK2.out; omega
              case rel => exact ⟨(wrap64 (x11_2 + 1)), (by first | rfl | (simp; done) | (simp [*]; done)), H', ⟨by have := HJ5.out; have := HK2.out; omega⟩, ⟨by (with_reducible repeat (first | apply Kd.R_alloc | apply Kd.R_drewN | apply Kd.R_drew)); exact HO_5.out⟩, ⟨by (with_reducible repeat (first | apply Kd.R_alloc | apply Kd.R_drewN | apply Kd.R_drew)); exact HO_10.out⟩, ⟨by (with_reducible repeat (first | apply Kd.R_alloc | apply Kd.R_drewN | apply Kd.R_drew)); exact HO_110001.out⟩, ⟨by (with_reducible repeat (first | refine blk_drewN ?_ _ | refine blk_drew ?_ | refine blk_alloc ?_ _)); exact BK109.out⟩, ⟨by repeat (first | (with_reducible first | exact HB.out | apply below_alloc | apply pw_below_drewN | apply below_drew1 | refine below_set ?_ GE109.out) | exact HB.out)⟩⟩
            ·
             rw [if_neg c27] at H
             have c27b0 : decide (x11_2 < t110) = false := decide_eq_false c27
             clear c27
             have H' := Aside0.mk H
             clear H
             have p117 : 0 ≤ (x11_2 : Int) := of_decide_eq_true (by first | (with_reducible assumption) | assumption)
             have q117 : x11_2 < (t106.length : Int) := of_decide_eq_true (by first | (with_reducible assumption) | assumption)
             obtain ⟨ad117, e117, hx117_0⟩ := Kd.at_int (Kd.R_reads' HO_5.out).2.2 x11_2 p117 q117
             cases e117
             replace p117 := eq_true p117
             replace q117 := eq_true q117
             obtain ⟨Ao30, co30, eo30⟩ := Kd.R_slice HO_10.out
             subst eo30
             have p118 : 0 ≤ ((rd t106 x11_2) : Int) := of_decide_eq_true (by first | (with_reducible assumption) | assumption)
             have q118 : (rd t106 x11_2) < (t114.length : Int) := of_decide_eq_true (by first | (with_reducible assumption) | assumption)
             obtain ⟨ad118, e118, hx118_0⟩ := Kd.at_int (Kd.R_reads' HO_10.out).2.2 (rd t106 x11_2) p118 q118
             cases e118
             replace p118 := eq_true p118
             replace q118 := eq_true q118
             go_wp2
             go_roundg k2
             case measure => have := HJ5.out; have := HK2.out; omega
             case rel => exact ⟨(wrap64 (x11_2 + 1)), (by first | rfl | (simp; done) | (simp [*]; done)), H', ⟨by have := HJ5.out; have := HK2.out; omega⟩, ⟨by (with_reducible repeat (first | apply Kd.R_alloc | apply Kd.R_drewN | apply Kd.R_drew)); exact HO_5.out⟩, ⟨by (with_reducible repeat (first | apply Kd.R_alloc | apply Kd.R_drewN | apply Kd.R_drew)); exact HO_10.out⟩, ⟨by (with_reducible repeat (first | apply Kd.R_alloc | apply Kd.R_drewN | apply Kd.R_drew)); exact HO_110001.out⟩, ⟨by (with_reducible repeat (first | refine blk_drewN ?_ _ | refine blk_drew ?_ | refine blk_alloc ?_ _)); exact BK109.out⟩, ⟨by repeat (first | (with_reducible first | exact HB.out | apply below_alloc | apply pw_below_drewN | apply below_drew1 | refine below_set ?_ GE109.out) | exact HB.out)⟩⟩
          ·
           rw [if_neg c25] at H
           exact absurd H (by simp)
         ·
          rw [if_neg c24] at H
          exact absurd H (by simp)
        ·
         rw [if_neg c23] at H
         exact absurd H (by simp)
       ·
        rw [if_neg c22] at H
        have c22b0 : decide (x11_2 < (t106.length : Int)) = false := decide_eq_false c22
        clear c22
        by_cases c31 : t110 < 0
        ·
         rw [if_pos c31] at H
         have c31b0 : decide (t110 < 0) = true := decide_eq_true c31
         clear c31
         by_cases c32 : t111 = 99999
         ·
          rw [if_pos c32] at H
          have c32b0 : (t111 == 99999) = true := beq_iff_eq.mpr c32
          have c32b1 : (t111 != 99999) = false := bne_eq_false_iff_eq.mpr c32
          clear c32
          clear H
          go_wp2
          go_ret
          exact ⟨by first | rfl | (simp [errW_none, errW_some] <;> rfl) | (simp [*, errW_none, errW_some] <;> rfl) | exact congrArg (fun b_ => Ending.returned (Value.bool b_)) HE_.out, by repeat (first | (with_reducible first | exact HB.out | apply below_alloc | apply pw_below_drewN | apply below_drew1 | refine below_set ?_ GE109.out) | exact HB.out)⟩
         ·
          rw [if_neg c32] at H
          have c32b0 : (t111 == 99999) = false := beq_eq_false_iff_ne.mpr c32
          have c32b1 : (t111 != 99999) = true := bne_iff_ne.mpr c32
          by_cases c33 : t110 ≥ 0
          ·
           rw [if_pos c33] at H
           have c33b0 : decide (0 ≤ t110) = true := decide_eq_true c33
           clear c33
           by_cases c34 : 0 ≤ t110
           ·
            rw [if_pos c34] at H
            have c34b0 : decide (0 ≤ t110) = true := decide_eq_true c34
            clear c34
            by_cases c35 : t110 < (t106.length : Int)
            ·
             rw [if_pos c35] at H
             have c35b0 : decide (t110 < (t106.length : Int)) = true := decide_eq_true c35
             clear c35
             by_cases c36 : 0 ≤ (rd t106 t110)
             ·
              rw [if_pos c36] at H
              have c36b0 : decide (0 ≤ (rd t106 t110)) = true := decide_eq_true c36
              clear c36
              by_cases c37 : (rd t106 t110) < (t114.length : Int)
              ·
               rw [if_pos c37] at H
               have c37b0 : decide ((rd t106 t110) < (t114.length : Int)) = true := decide_eq_true c37
               clear c37
               have HE_ := Aside0.mk (Option.some.inj H)
               clear H
               have p121 : 0 ≤ (t110 : Int) := of_decide_eq_true (by first | (with_reducible assumption) | assumption)
               have q121 : t110 < (t106.length : Int) := of_decide_eq_true (by first | (with_reducible assumption) | assumption)
               obtain ⟨ad121, e121, hx121_0⟩ := Kd.at_int (Kd.R_reads' HO_5.out).2.2 t110 p121 q121
               cases e121
               replace p121 := eq_true p121
               replace q121 := eq_true q121
               obtain ⟨Ao38, co38, eo38⟩ := Kd.R_slice HO_10.out
               subst eo38
               have p122 : 0 ≤ ((rd t106 t110) : Int) := of_decide_eq_true (by first | (with_reducible assumption) | assumption)
               have q122 : (rd t106 t110) < (t114.length : Int) := of_decide_eq_true (by first | (with_reducible assumption) | assumption)
               obtain ⟨ad122, e122, hx122_0⟩ := Kd.at_int (Kd.R_reads' HO_10.out).2.2 (rd t106 t110) p122 q122
               cases e122
               replace p122 := eq_true p122
               replace q122 := eq_true q122
               go_wp2
               go_ret
               exact ⟨by first | rfl | (simp [errW_none, errW_some] <;> rfl) | (simp [*, errW_none, errW_some] <;> rfl) | exact congrArg (fun b_ => Ending.returned (Value.bool b_)) HE_.out, by repeat (first | (with_reducible first | exact HB.out | apply below_alloc | apply pw_below_drewN | apply below_drew1 | refine below_set ?_ GE109.out) | exact HB.out)⟩
              ·
               rw [if_neg c37] at H
               exact absurd H (by simp)
             ·
              rw [if_neg c36] at H
              exact absurd H (by simp)
            ·
             rw [if_neg c35] at H
             exact absurd H (by simp)
           ·
            rw [if_neg c34] at H
            exact absurd H (by simp)
          ·
           rw [if_neg c33] at H
           have c33b0 : decide (0 ≤ t110) = false := decide_eq_false c33
           clear c33
           exact absurd H (by simp)
        ·
         rw [if_neg c31] at H
         have c31b0 : decide (t110 < 0) = false := decide_eq_false c31
         clear c31
         by_cases c39 : t110 ≥ 0
         ·
          rw [if_pos c39] at H
          have c39b0 : decide (0 ≤ t110) = true := decide_eq_true c39
          clear c39
          by_cases c40 : 0 ≤ t110
          ·
           rw [if_pos c40] at H
           have c40b0 : decide (0 ≤ t110) = true := decide_eq_true c40
           clear c40
           by_cases c41 : t110 < (t106.length : Int)
           ·
            rw [if_pos c41] at H
            have c41b0 : decide (t110 < (t106.length : Int)) = true := decide_eq_true c41
            clear c41
            by_cases c42 : 0 ≤ (rd t106 t110)
            ·
             rw [if_pos c42] at H
             have c42b0 : decide (0 ≤ (rd t106 t110)) = true := decide_eq_true c42
             clear c42
             by_cases c43 : (rd t106 t110) < (t114.length : Int)
             ·
              rw [if_pos c43] at H
              have c43b0 : decide ((rd t106 t110) < (t114.length : Int)) = true := decide_eq_true c43
              clear c43
              have HE_ := Aside0.mk (Option.some.inj H)
              clear H
              have p123 : 0 ≤ (t110 : Int) := of_decide_eq_true (by first | (with_reducible assumption) | assumption)
              have q123 : t110 < (t106.length : Int) := of_decide_eq_true (by first | (with_reducible assumption) | assumption)
              obtain ⟨ad123, e123, hx123_0⟩ := Kd.at_int (Kd.R_reads' HO_5.out).2.2 t110 p123 q123
              cases e123
              replace p123 := eq_true p123
              replace q123 := eq_true q123
              obtain ⟨Ao44, co44, eo44⟩ := Kd.R_slice HO_10.out
              subst eo44
              have p124 : 0 ≤ ((rd t106 t110) : Int) := of_decide_eq_true (by first | (with_reducible assumption) | assumption)
              have q124 : (rd t106 t110) < (t114.length : Int) := of_decide_eq_true (by first | (with_reducible assumption) | assumption)
              obtain ⟨ad124, e124, hx124_0⟩ := Kd.at_int (Kd.R_reads' HO_10.out).2.2 (rd t106 t110) p124 q124
              cases e124
              replace p124 := eq_true p124
              replace q124 := eq_true q124
              go_wp2
              go_ret
              exact ⟨by first | rfl | (simp [errW_none, errW_some] <;> rfl) | (simp [*, errW_none, errW_some] <;> rfl) | exact congrArg (fun b_ => Ending.returned (Value.bool b_)) HE_.out, by repeat (first | (with_reducible first | exact HB.out | apply below_alloc | apply pw_below_drewN | apply below_drew1 | refine below_set ?_ GE109.out) | exact HB.out)⟩
             ·
              rw [if_neg c43] at H
              exact absurd H (by simp)
            ·
             rw [if_neg c42] at H
             exact absurd H (by simp)
           ·
            rw [if_neg c41] at H
            exact absurd H (by simp)
          ·
           rw [if_neg c40] at H
           exact absurd H (by simp)
         ·
          rw [if_neg c39] at H
          have c39b0 : decide (0 ≤ t110) = false := decide_eq_false c39
          clear c39
          exact absurd H (by simp)

/-- THE ONE PURE STATEMENT of laws_FnManyNear: yours. -/
def laws_FnManyNear.Pure : Prop := ∀ (l0 : List Int), l0.length ≤ maxLen → l0.length * 1 ≤ 140737488351232 → (∀ x ∈ l0, (Lit.int .u8 x).wf = true) → ∃ k, laws_FnManyNear.f k l0 = some true
theorem laws_FnManyNear.walk (P : laws_FnManyNear.Pure) (a0 : Option Addr) (len0 cap0 : Nat) (z0 : List Int) (w : World) (w0 : (a0 = none ∧ len0 = 0 ∧ cap0 = 0 ∧ z0 = []) ∨ ∃ x, a0 = some x ∧ len0 ≤ cap0 ∧ cap0 ≤ maxLen ∧ z0.length = cap0 ∧ (∀ i, i < z0.length → w.cell? (x.add i) = some (.int .u8 (z0.getD i 0))) ∧ ∀ n ∈ z0, (Lit.int .u8 n).wf = true) (y0 : len0 * 1 ≤ 140737488351232) :
  Calls Try.prog 15 #[.slice a0 len0 cap0] w fun e w' => e = .returned (.bool true) ∧ Below w.heap.size w w' := by
 obtain ⟨l0, rfl, hr0, hm0, hw0, hc0⟩ := ReadsInt.ofRowC w0
 obtain ⟨k, h⟩ := P l0 hm0 y0 hw0
 refine (laws_FnManyNear.calls k _ _ l0 w (Kd.C_of_reads (d := (0 : Int)) (h1 := fun _ => rfl) hr0) hc0 h).mono ?_
 rintro e w' ⟨rfl, hd⟩
 exact ⟨rfl, hd⟩

end Go.Proofs.Ytjmpngfgfddpaaa.P
