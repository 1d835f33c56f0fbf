-- written for this claim by a program (wip/gen/myprint.py over the print tool). Not trusted: Lean checks it.
import Derived.Test.YtjmpngfgfddpaaaPx0
import Derived.Test.YtjmpngfgfddpaaaHUp
import Derived.Test.YtjmpngfgfddpaaaPFSpecL3All
import Derived.Test.YtjmpngfgfddpaaaGDist
namespace Go.Proofs.Ytjmpngfgfddpaaa.P
open Go.RowKit Go.Proofs.YtjmpngfgfddpaaaV.PrintWords Go.Proofs.YtjmpngfgfddpaaaV.PrintLast
set_option linter.unusedVariables false
set_option linter.unusedSimpArgs false

/-! ### spec_l12Less: function 164 -/
mutual
def spec_l12Less.j0 : Nat → Int → Int → List Int → List Int → Int → Bool → Option (Int)
 | 0, _, _, _, _, _, _ => none
 | k + 1, x2, x3, x9, x10, x11, x36 => if x36 = true then (if 0 ≤ x3 then (if x3 < (x9.length : Int) then (if 0 ≤ x2 then (if x2 < (x9.length : Int) then (spec_l12Less.j1 k x2 x3 x10 (wrap64 ((rd x9 x3) - (rd x9 x2)))) else (none)) else (none)) else (none)) else (none)) else (spec_l12Less.j1 k x2 x3 x10 x11)
def spec_l12Less.j1 : Nat → Int → Int → List Int → Int → Option (Int)
 | 0, _, _, _, _ => none
 | k + 1, x2, x3, x10, x11 => if 0 ≤ x3 then (if x3 < (x10.length : Int) then (if (rd x10 x3) < 99999 then (if 0 ≤ x2 then (if x2 < (x10.length : Int) then (spec_l12Less.j2 k x2 x3 x10 x11 (decide ((wrap64 ((rd x10 x2) - (rd x10 x3))) > x11))) else (none)) else (none)) else (spec_l12Less.j2 k x2 x3 x10 x11 false)) else (none)) else (none)
def spec_l12Less.j2 : Nat → Int → Int → List Int → Int → Bool → Option (Int)
 | 0, _, _, _, _, _ => none
 | k + 1, x2, x3, x10, x11, x63 => if x63 = true then (if 0 ≤ x2 then (if x2 < (x10.length : Int) then (if 0 ≤ x3 then (if x3 < (x10.length : Int) then (if (wrap64 ((rd x10 x2) - (rd x10 x3))) > 49999 then (some 99999) else (some (wrap64 ((rd x10 x2) - (rd x10 x3))))) else (none)) else (none)) else (none)) else (none)) else (if x11 > 49999 then (some 99999) else (some x11))
end
def spec_l12Less.f (k : Nat) (a0_0 : Int) (l0_1 : List (S33)) (a1 : Int) (a2 : Int) (a3 : Int) : Option (Int) := (spec_l3All.f k a0_0 l0_1 a1).bind fun t102 => ((spec_l1Back.f k a0_0 l0_1).bind fun bt105 => ((spec_l3All.f k bt105.1 bt105.2 a1).bind fun t109 => (if 0 ≤ a2 then (if a2 < (t102.length : Int) then (if (rd t102 a2) < 99999 then (if 0 ≤ a3 then (if a3 < (t102.length : Int) then (spec_l12Less.j0 k a2 a3 t102 t109 0 (decide ((wrap64 ((rd t102 a3) - (rd t102 a2))) > 0))) else (none)) else (none)) else (spec_l12Less.j0 k a2 a3 t102 t109 0 false)) else (none)) else (none))))
set_option maxHeartbeats 8000000 in
set_option maxRecDepth 100000 in
theorem spec_l12Less.calls (k : Nat) (a0_0 : Int) (A0_1 : Option Addr) (c0_1 : Nat) (l0_1 : List (S33)) (a1 : Int) (a2 : Int) (a3 : Int) (r : Int) (w : World) (hr0_1 : Kd.C k33 w A0_1 l0_1.length l0_1) (hc0_1 : l0_1.length ≤ c0_1) (h : spec_l12Less.f k a0_0 l0_1 a1 a2 a3 = some r) :
  Calls Try.prog 164 #[.agg #[.int .i64 a0_0, .slice A0_1 l0_1.length c0_1], .int .i64 a1, .int .i64 a2, .int .i64 a3] w fun e w' => e = .returned (.int .i64 r) ∧ Below w.heap.size w w' := by
 have hu25 := Try.underlying25
 have HR0_1 := Aside0.mk hr0_1
 have HC0_1 := Aside0.mk hc0_1
 clear hr0_1 hc0_1
 have HB := Aside0.mk (Below.refl w.heap.size w)
 have H : ((spec_l3All.f k a0_0 l0_1 a1).bind fun t102 => ((spec_l1Back.f k a0_0 l0_1).bind fun bt105 => ((spec_l3All.f k bt105.1 bt105.2 a1).bind fun t109 => (if 0 ≤ a2 then (if a2 < (t102.length : Int) then (if (rd t102 a2) < 99999 then (if 0 ≤ a3 then (if a3 < (t102.length : Int) then (spec_l12Less.j0 k a2 a3 t102 t109 0 (decide ((wrap64 ((rd t102 a3) - (rd t102 a2))) > 0))) else (none)) else (none)) else (spec_l12Less.j0 k a2 a3 t102 t109 0 false)) else (none)) else (none))))) = some r := h
 clear h
 replace H := Option.bind_eq_some_iff.mp H
 obtain ⟨t102, A50, H⟩ := H
 replace H : ((spec_l1Back.f k a0_0 l0_1).bind fun bt105 => ((spec_l3All.f k bt105.1 bt105.2 a1).bind fun t109 => (if 0 ≤ a2 then (if a2 < (t102.length : Int) then (if (rd t102 a2) < 99999 then (if 0 ≤ a3 then (if a3 < (t102.length : Int) then (spec_l12Less.j0 k a2 a3 t102 t109 0 (decide ((wrap64 ((rd t102 a3) - (rd t102 a2))) > 0))) else (none)) else (none)) else (spec_l12Less.j0 k a2 a3 t102 t109 0 false)) else (none)) else (none)))) = some r := H
 have A5 := Aside0.mk A50
 clear A50
 replace H := Option.bind_eq_some_iff.mp H
 obtain ⟨⟨t105, t106⟩, A60, H⟩ := H
 replace H : ((spec_l3All.f k t105 t106 a1).bind fun t109 => (if 0 ≤ a2 then (if a2 < (t102.length : Int) then (if (rd t102 a2) < 99999 then (if 0 ≤ a3 then (if a3 < (t102.length : Int) then (spec_l12Less.j0 k a2 a3 t102 t109 0 (decide ((wrap64 ((rd t102 a3) - (rd t102 a2))) > 0))) else (none)) else (none)) else (spec_l12Less.j0 k a2 a3 t102 t109 0 false)) else (none)) else (none))) = some r := H
 have A6 := Aside0.mk A60
 clear A60
 replace H := Option.bind_eq_some_iff.mp H
 obtain ⟨t109, A70, H⟩ := H
 replace H : (if 0 ≤ a2 then (if a2 < (t102.length : Int) then (if (rd t102 a2) < 99999 then (if 0 ≤ a3 then (if a3 < (t102.length : Int) then (spec_l12Less.j0 k a2 a3 t102 t109 0 (decide ((wrap64 ((rd t102 a3) - (rd t102 a2))) > 0))) else (none)) else (none)) else (spec_l12Less.j0 k a2 a3 t102 t109 0 false)) else (none)) else (none)) = some r := H
 have A7 := Aside0.mk A70
 clear A70
 have HC8 := Aside0.mk H
 clear H
 go_enter Try.func164, Try.ntmps164
 go_upto_region 4 with (first | ((with_reducible refine gate_dst (N := 4) rfl ?_); refine box_event ?hg (N := 4) ?hd (cs := #[.int .i64 a0_0, .slice A0_1 l0_1.length c0_1]) (t := 25) ?hr ?_; (case hd => rfl); (case hg => rfl); (case hr => first | (go_simp; done) | (go_simp; rfl)); intro gb101 hg w9 hbox hb; have n0_ := Aside0.mk (below_step (uB0 HB) hb); have n1_ := Aside0.mk (hbox); have n2_ := Aside0.mk ((by rw [hg]; exact (below_size (uB0 HB)) : w.heap.size ≤ gb101)); have n3_ := Aside0.mk ((by rw [hg]; exact (below_size (uB0 HB)) : w.heap.size ≤ gb101)); clear HB; have HB := n0_; have BK101 := n1_; have GW101 := n2_; have GE101 := n3_; clear n0_ n1_ n2_ n3_; clear hb hbox hg; have hcz10_0 : w9.cell? ⟨gb101, 0, none⟩ = some (.int .i64 a0_0) := (blk_cell BK101.out 0).trans rfl; have hcz10_1 : w9.cell? ⟨gb101, 1, none⟩ = some (.slice A0_1 l0_1.length c0_1) := (blk_cell BK101.out 1).trans rfl; have hfz10_0 := blk_frozen BK101.out 0; have hfz10_1 := blk_frozen BK101.out 1) | (go_at_call 126; (with_reducible refine (spec_l3All.calls k a0_0 _ _ l0_1 a1 t102 _ ?side1 ?side2 A5.out).mono ?_); (case side1 => exact uC HR0_1 HB); (case side2 => exact HC0_1.out); rintro e w11 ⟨v103, rfl, ho0, hb⟩; have n0_ := Aside0.mk (Kd.R_lower ho0 (below_size (uB1 HB GE101.out))); have n1_ := Aside0.mk (blk_below (g := gb101) (o := .cells #[.int .i64 a0_0, .slice A0_1 l0_1.length c0_1] 25 (0, 0)) (ub BK101) hb); have n2_ := Aside0.mk (below_step (uB1 HB GE101.out) hb); clear BK101; clear HB; have HO104 := n0_; have BK101 := n1_; have HB := n2_; clear n0_ n1_ n2_; (try clear hb); (try clear hb2); (try clear hk); (try clear hi); (try clear ho0); have hcz12_0 : w11.cell? ⟨gb101, 0, none⟩ = some (.int .i64 a0_0) := (blk_cell BK101.out 0).trans rfl; have hcz12_1 : w11.cell? ⟨gb101, 1, none⟩ = some (.slice A0_1 l0_1.length c0_1) := (blk_cell BK101.out 1).trans rfl; have hfz12_0 := blk_frozen BK101.out 0; have hfz12_1 := blk_frozen BK101.out 1) | (go_at_call 138; (with_reducible refine (spec_l1Back.calls k a0_0 _ _ l0_1 t105 t106 _ ?side1 ?side2 A6.out).mono ?_); (case side1 => exact uC HR0_1 HB); (case side2 => exact HC0_1.out); rintro e w13 ⟨v107, rfl, ho0, hb⟩; have n0_ := Aside0.mk (Kd.R_below (ur HO104) hb); have n1_ := Aside0.mk (Kd.R_lower ho0 (below_size (uB1 HB GE101.out))); have n2_ := Aside0.mk (blk_below (g := gb101) (o := .cells #[.int .i64 a0_0, .slice A0_1 l0_1.length c0_1] 25 (0, 0)) (ub BK101) hb); have n3_ := Aside0.mk (below_step (uB1 HB GE101.out) hb); clear HO104; clear BK101; clear HB; have HO104 := n0_; have HO108 := n1_; have BK101 := n2_; have HB := n3_; clear n0_ n1_ n2_ n3_; (try clear hb); (try clear hb2); (try clear hk); (try clear hi); (try clear ho0); obtain ⟨Ao14, co14, eo14⟩ := Kd.R_slice HO108.out; subst eo14) | (go_at_call 126; (with_reducible refine (spec_l3All.calls k t105 _ _ t106 a1 t109 _ ?side1 ?side2 A7.out).mono ?_); (case side1 => exact uD (Kd.R_reads' HO108.out).2.2); (case side2 => exact (Kd.R_reads' HO108.out).2.1); rintro e w15 ⟨v110, rfl, ho0, hb⟩; have n0_ := Aside0.mk (Kd.R_elder' (ur HO104) (Kd.R_base ho0) hb); have n1_ := Aside0.mk (Kd.R_below (ur HO108) hb); have n2_ := Aside0.mk (Kd.R_lower (Kd.R_new' ho0 (Kd.R_lt (ur HO104))) (below_size (uB1 HB GE101.out))); have n3_ := Aside0.mk (blk_below (g := gb101) (o := .cells #[.int .i64 a0_0, .slice A0_1 l0_1.length c0_1] 25 (0, 0)) (ub BK101) hb); have n4_ := Aside0.mk (below_step (uB1 HB GE101.out) hb); clear HO104; clear HO108; clear BK101; clear HB; have HO104 := n0_; have HO108 := n1_; have HO111 := n2_; have BK101 := n3_; have HB := n4_; clear n0_ n1_ n2_ n3_ n4_; (try clear hb); (try clear hb2); (try clear hk); (try clear hi); (try clear ho0)))
 repeat (go_quiet (first | ((with_reducible refine gate_dst (N := 4) rfl ?_); refine box_event ?hg (N := 4) ?hd (cs := #[.int .i64 a0_0, .slice A0_1 l0_1.length c0_1]) (t := 25) ?hr ?_; (case hd => rfl); (case hg => rfl); (case hr => first | (go_simp; done) | (go_simp; rfl)); intro gb101 hg w9 hbox hb; have n0_ := Aside0.mk (below_step (uB0 HB) hb); have n1_ := Aside0.mk (hbox); have n2_ := Aside0.mk ((by rw [hg]; exact (below_size (uB0 HB)) : w.heap.size ≤ gb101)); have n3_ := Aside0.mk ((by rw [hg]; exact (below_size (uB0 HB)) : w.heap.size ≤ gb101)); clear HB; have HB := n0_; have BK101 := n1_; have GW101 := n2_; have GE101 := n3_; clear n0_ n1_ n2_ n3_; clear hb hbox hg; have hcz10_0 : w9.cell? ⟨gb101, 0, none⟩ = some (.int .i64 a0_0) := (blk_cell BK101.out 0).trans rfl; have hcz10_1 : w9.cell? ⟨gb101, 1, none⟩ = some (.slice A0_1 l0_1.length c0_1) := (blk_cell BK101.out 1).trans rfl; have hfz10_0 := blk_frozen BK101.out 0; have hfz10_1 := blk_frozen BK101.out 1) | (go_at_call 126; (with_reducible refine (spec_l3All.calls k a0_0 _ _ l0_1 a1 t102 _ ?side1 ?side2 A5.out).mono ?_); (case side1 => exact uC HR0_1 HB); (case side2 => exact HC0_1.out); rintro e w11 ⟨v103, rfl, ho0, hb⟩; have n0_ := Aside0.mk (Kd.R_lower ho0 (below_size (uB1 HB GE101.out))); have n1_ := Aside0.mk (blk_below (g := gb101) (o := .cells #[.int .i64 a0_0, .slice A0_1 l0_1.length c0_1] 25 (0, 0)) (ub BK101) hb); have n2_ := Aside0.mk (below_step (uB1 HB GE101.out) hb); clear BK101; clear HB; have HO104 := n0_; have BK101 := n1_; have HB := n2_; clear n0_ n1_ n2_; (try clear hb); (try clear hb2); (try clear hk); (try clear hi); (try clear ho0); have hcz12_0 : w11.cell? ⟨gb101, 0, none⟩ = some (.int .i64 a0_0) := (blk_cell BK101.out 0).trans rfl; have hcz12_1 : w11.cell? ⟨gb101, 1, none⟩ = some (.slice A0_1 l0_1.length c0_1) := (blk_cell BK101.out 1).trans rfl; have hfz12_0 := blk_frozen BK101.out 0; have hfz12_1 := blk_frozen BK101.out 1) | (go_at_call 138; (with_reducible refine (spec_l1Back.calls k a0_0 _ _ l0_1 t105 t106 _ ?side1 ?side2 A6.out).mono ?_); (case side1 => exact uC HR0_1 HB); (case side2 => exact HC0_1.out); rintro e w13 ⟨v107, rfl, ho0, hb⟩; have n0_ := Aside0.mk (Kd.R_below (ur HO104) hb); have n1_ := Aside0.mk (Kd.R_lower ho0 (below_size (uB1 HB GE101.out))); have n2_ := Aside0.mk (blk_below (g := gb101) (o := .cells #[.int .i64 a0_0, .slice A0_1 l0_1.length c0_1] 25 (0, 0)) (ub BK101) hb); have n3_ := Aside0.mk (below_step (uB1 HB GE101.out) hb); clear HO104; clear BK101; clear HB; have HO104 := n0_; have HO108 := n1_; have BK101 := n2_; have HB := n3_; clear n0_ n1_ n2_ n3_; (try clear hb); (try clear hb2); (try clear hk); (try clear hi); (try clear ho0); obtain ⟨Ao14, co14, eo14⟩ := Kd.R_slice HO108.out; subst eo14) | (go_at_call 126; (with_reducible refine (spec_l3All.calls k t105 _ _ t106 a1 t109 _ ?side1 ?side2 A7.out).mono ?_); (case side1 => exact uD (Kd.R_reads' HO108.out).2.2); (case side2 => exact (Kd.R_reads' HO108.out).2.1); rintro e w15 ⟨v110, rfl, ho0, hb⟩; have n0_ := Aside0.mk (Kd.R_elder' (ur HO104) (Kd.R_base ho0) hb); have n1_ := Aside0.mk (Kd.R_below (ur HO108) hb); have n2_ := Aside0.mk (Kd.R_lower (Kd.R_new' ho0 (Kd.R_lt (ur HO104))) (below_size (uB1 HB GE101.out))); have n3_ := Aside0.mk (blk_below (g := gb101) (o := .cells #[.int .i64 a0_0, .slice A0_1 l0_1.length c0_1] 25 (0, 0)) (ub BK101) hb); have n4_ := Aside0.mk (below_step (uB1 HB GE101.out) hb); clear HO104; clear HO108; clear BK101; clear HB; have HO104 := n0_; have HO108 := n1_; have HO111 := n2_; have BK101 := n3_; have HB := n4_; clear n0_ n1_ n2_ n3_ n4_; (try clear hb); (try clear hb2); (try clear hk); (try clear hi); (try clear ho0))); go_upto_region 4 with (first | ((with_reducible refine gate_dst (N := 4) rfl ?_); refine box_event ?hg (N := 4) ?hd (cs := #[.int .i64 a0_0, .slice A0_1 l0_1.length c0_1]) (t := 25) ?hr ?_; (case hd => rfl); (case hg => rfl); (case hr => first | (go_simp; done) | (go_simp; rfl)); intro gb101 hg w9 hbox hb; have n0_ := Aside0.mk (below_step (uB0 HB) hb); have n1_ := Aside0.mk (hbox); have n2_ := Aside0.mk ((by rw [hg]; exact (below_size (uB0 HB)) : w.heap.size ≤ gb101)); have n3_ := Aside0.mk ((by rw [hg]; exact (below_size (uB0 HB)) : w.heap.size ≤ gb101)); clear HB; have HB := n0_; have BK101 := n1_; have GW101 := n2_; have GE101 := n3_; clear n0_ n1_ n2_ n3_; clear hb hbox hg; have hcz10_0 : w9.cell? ⟨gb101, 0, none⟩ = some (.int .i64 a0_0) := (blk_cell BK101.out 0).trans rfl; have hcz10_1 : w9.cell? ⟨gb101, 1, none⟩ = some (.slice A0_1 l0_1.length c0_1) := (blk_cell BK101.out 1).trans rfl; have hfz10_0 := blk_frozen BK101.out 0; have hfz10_1 := blk_frozen BK101.out 1) | (go_at_call 126; (with_reducible refine (spec_l3All.calls k a0_0 _ _ l0_1 a1 t102 _ ?side1 ?side2 A5.out).mono ?_); (case side1 => exact uC HR0_1 HB); (case side2 => exact HC0_1.out); rintro e w11 ⟨v103, rfl, ho0, hb⟩; have n0_ := Aside0.mk (Kd.R_lower ho0 (below_size (uB1 HB GE101.out))); have n1_ := Aside0.mk (blk_below (g := gb101) (o := .cells #[.int .i64 a0_0, .slice A0_1 l0_1.length c0_1] 25 (0, 0)) (ub BK101) hb); have n2_ := Aside0.mk (below_step (uB1 HB GE101.out) hb); clear BK101; clear HB; have HO104 := n0_; have BK101 := n1_; have HB := n2_; clear n0_ n1_ n2_; (try clear hb); (try clear hb2); (try clear hk); (try clear hi); (try clear ho0); have hcz12_0 : w11.cell? ⟨gb101, 0, none⟩ = some (.int .i64 a0_0) := (blk_cell BK101.out 0).trans rfl; have hcz12_1 : w11.cell? ⟨gb101, 1, none⟩ = some (.slice A0_1 l0_1.length c0_1) := (blk_cell BK101.out 1).trans rfl; have hfz12_0 := blk_frozen BK101.out 0; have hfz12_1 := blk_frozen BK101.out 1) | (go_at_call 138; (with_reducible refine (spec_l1Back.calls k a0_0 _ _ l0_1 t105 t106 _ ?side1 ?side2 A6.out).mono ?_); (case side1 => exact uC HR0_1 HB); (case side2 => exact HC0_1.out); rintro e w13 ⟨v107, rfl, ho0, hb⟩; have n0_ := Aside0.mk (Kd.R_below (ur HO104) hb); have n1_ := Aside0.mk (Kd.R_lower ho0 (below_size (uB1 HB GE101.out))); have n2_ := Aside0.mk (blk_below (g := gb101) (o := .cells #[.int .i64 a0_0, .slice A0_1 l0_1.length c0_1] 25 (0, 0)) (ub BK101) hb); have n3_ := Aside0.mk (below_step (uB1 HB GE101.out) hb); clear HO104; clear BK101; clear HB; have HO104 := n0_; have HO108 := n1_; have BK101 := n2_; have HB := n3_; clear n0_ n1_ n2_ n3_; (try clear hb); (try clear hb2); (try clear hk); (try clear hi); (try clear ho0); obtain ⟨Ao14, co14, eo14⟩ := Kd.R_slice HO108.out; subst eo14) | (go_at_call 126; (with_reducible refine (spec_l3All.calls k t105 _ _ t106 a1 t109 _ ?side1 ?side2 A7.out).mono ?_); (case side1 => exact uD (Kd.R_reads' HO108.out).2.2); (case side2 => exact (Kd.R_reads' HO108.out).2.1); rintro e w15 ⟨v110, rfl, ho0, hb⟩; have n0_ := Aside0.mk (Kd.R_elder' (ur HO104) (Kd.R_base ho0) hb); have n1_ := Aside0.mk (Kd.R_below (ur HO108) hb); have n2_ := Aside0.mk (Kd.R_lower (Kd.R_new' ho0 (Kd.R_lt (ur HO104))) (below_size (uB1 HB GE101.out))); have n3_ := Aside0.mk (blk_below (g := gb101) (o := .cells #[.int .i64 a0_0, .slice A0_1 l0_1.length c0_1] 25 (0, 0)) (ub BK101) hb); have n4_ := Aside0.mk (below_step (uB1 HB GE101.out) hb); clear HO104; clear HO108; clear BK101; clear HB; have HO104 := n0_; have HO108 := n1_; have HO111 := n2_; have BK101 := n3_; have HB := n4_; clear n0_ n1_ n2_ n3_ n4_; (try clear hb); (try clear hb2); (try clear hk); (try clear hi); (try clear ho0))))
 (try simp only [Act.put, List.setIfInBounds_toArray, List.set_cons_zero, List.set_cons_succ])
 go_cut [36] (fun v36 wc => ∃ (kq : Nat) (x36_7 : Bool), v36 = .bool x36_7 ∧ Aside0 (spec_l12Less.j0 kq a2 a3 t102 t109 0 x36_7 = some r) ∧ Aside0 (kq ≤ k) ∧ Aside0 (Kd.R (Kd.int .i64) 3 wc w.heap.size (fun k_ => some k_ ≠ (v110 : Value).ownBlock) v103 t102) ∧ Aside0 (Kd.R (Kd.int .i64) 3 wc w.heap.size (fun k_ => some k_ ≠ (v103 : Value).ownBlock) v110 t109) ∧ Aside0 (wc.heap[gb101]? = some (.cells #[.int .i64 a0_0, (.slice A0_1 l0_1.length c0_1)] 25 (0, 0))) ∧ Aside0 (Below w.heap.size w wc))
 case first =>
  have H := HC8.out; clear HC8; by_cases c16 : 0 ≤ a2
  ·
   rw [if_pos c16] at H; have c16b0 : decide (0 ≤ a2) = true := decide_eq_true c16; clear c16; (first | rw [c16b0] | (simp only [i64_w, i32_w]; rw [c16b0]) | skip); by_cases c17 : a2 < (t102.length : Int)
   ·
    rw [if_pos c17] at H; have c17b0 : decide (a2 < (t102.length : Int)) = true := decide_eq_true c17; clear c17; by_cases c18 : (rd t102 a2) < 99999
    ·
     rw [if_pos c18] at H; have c18b0 : decide ((rd t102 a2) < 99999) = true := decide_eq_true c18; clear c18; by_cases c19 : 0 ≤ a3
     ·
      rw [if_pos c19] at H; have c19b0 : decide (0 ≤ a3) = true := decide_eq_true c19; clear c19; by_cases c20 : a3 < (t102.length : Int)
      ·
       rw [if_pos c20] at H; have c20b0 : decide (a3 < (t102.length : Int)) = true := decide_eq_true c20; clear c20; have H' := Aside0.mk H; clear H; obtain ⟨Ao21, co21, eo21⟩ := Kd.R_slice HO104.out; subst eo21; have p112 : 0 ≤ (a2 : Int) := ua; have q112 : a2 < (t102.length : Int) := ua; obtain ⟨ad112, e112, hx112_0⟩ := Kd.at_int (Kd.R_reads' HO104.out).2.2 a2 p112 q112
       cases e112
       replace p112 := eq_true p112; replace q112 := eq_true q112; have p113 : 0 ≤ (a3 : Int) := ua; have q113 : a3 < (t102.length : Int) := ua; obtain ⟨ad113, e113, hx113_0⟩ := Kd.at_int (Kd.R_reads' HO104.out).2.2 a3 p113 q113; obtain rfl : ad112 = ad113 := (by injection e113)
       replace p113 := eq_true p113; replace q113 := eq_true q113; have p114 : 0 ≤ (a2 : Int) := ua; have q114 : a2 < (t102.length : Int) := ua; obtain ⟨ad114, e114, hx114_0⟩ := Kd.at_int (Kd.R_reads' HO104.out).2.2 a2 p114 q114; obtain rfl : ad112 = ad114 := (by injection e114)
       replace p114 := eq_true p114; replace q114 := eq_true q114; go_wp2
       repeat (go_quiet (fail); try go_wp2)
       go_meet
       case rel => exact ⟨_, (decide ((wrap64 ((rd t102 a3) - (rd t102 a2))) > 0)), ue, H', ⟨by first | omega | exact Nat.le_refl _⟩, ⟨by (with_reducible repeat (first | apply Kd.R_alloc | apply Kd.R_drewN | apply Kd.R_drew)); exact Kd.R_mono HO104.out (fun _ hk => hk.2)⟩, ⟨by (with_reducible repeat (first | apply Kd.R_alloc | apply Kd.R_drewN | apply Kd.R_drew)); exact Kd.R_mono HO111.out (fun _ hk => hk.2)⟩, ⟨ub BK101⟩, ⟨uB1 HB GE101.out⟩⟩
      ·
       rw [if_neg c20] at H; exact absurd H (by simp)
     ·
      rw [if_neg c19] at H; exact absurd H (by simp)
    ·
     rw [if_neg c18] at H; have c18b0 : decide ((rd t102 a2) < 99999) = false := decide_eq_false c18; clear c18; have H' := Aside0.mk H; clear H; obtain ⟨Ao22, co22, eo22⟩ := Kd.R_slice HO104.out; subst eo22; have p112 : 0 ≤ (a2 : Int) := ua; have q112 : a2 < (t102.length : Int) := ua; obtain ⟨ad112, e112, hx112_0⟩ := Kd.at_int (Kd.R_reads' HO104.out).2.2 a2 p112 q112
     cases e112
     replace p112 := eq_true p112; replace q112 := eq_true q112; go_wp2
     repeat (go_quiet (fail); try go_wp2)
     go_meet
     case rel => exact ⟨_, (false), ue, H', ⟨by first | omega | exact Nat.le_refl _⟩, ⟨by (with_reducible repeat (first | apply Kd.R_alloc | apply Kd.R_drewN | apply Kd.R_drew)); exact Kd.R_mono HO104.out (fun _ hk => hk.2)⟩, ⟨by (with_reducible repeat (first | apply Kd.R_alloc | apply Kd.R_drewN | apply Kd.R_drew)); exact Kd.R_mono HO111.out (fun _ hk => hk.2)⟩, ⟨ub BK101⟩, ⟨uB1 HB GE101.out⟩⟩
   ·
    rw [if_neg c17] at H; exact absurd H (by simp)
  ·
   rw [if_neg c16] at H; exact absurd H (by simp)
 case rest =>
  clear HC8; try clear c1
  try clear p1
  try clear q1
  try clear hx1
  try clear c2
  try clear p2
  try clear p6
  try clear p11
  try clear q11
  try clear hx11
  try clear c16
  try clear c16b0
  try clear c17
  try clear c17b0
  try clear c18
  try clear c18b0
  try clear c19
  try clear c19b0
  try clear c20
  try clear c20b0
  try clear hcz10_0
  try clear hcz10_1
  try clear hcz12_0
  try clear hcz12_1
  try clear hfz10_0
  try clear hfz10_1
  try clear hfz12_0
  try clear hfz12_1
  try clear hx112_0
  try clear hx113_0
  try clear hx114_0
  try clear p112
  try clear p113
  try clear p114
  try clear q112
  try clear q113
  try clear q114
  obtain ⟨kq, x36_7, rfl, HA, HJ7, HO_9, HO_10, BK101, HB⟩ := hcut
  cases kq with
  | zero => exact absurd HA.out (by simp [spec_l12Less.j0])
  | succ kj7 =>
   have H := HA.out; clear HA; simp only [spec_l12Less.j0] at H; have HC23 := Aside0.mk H; clear H; go_upto_if 36 with (fail)
   repeat (go_quiet (fail); go_upto_if 36 with (fail))
   go_cut [11] (fun v11 wc => ∃ (kq : Nat) (x11_22 : Int), v11 = .int .i64 x11_22 ∧ Aside0 (spec_l12Less.j1 kq a2 a3 t109 x11_22 = some r) ∧ Aside0 (kq ≤ kj7) ∧ Aside0 (Kd.R (Kd.int .i64) 3 wc w.heap.size (fun _ => True) v110 t109) ∧ Aside0 (wc.heap[gb101]? = some (.cells #[.int .i64 a0_0, (.slice A0_1 l0_1.length c0_1)] 25 (0, 0))) ∧ Aside0 (Below w.heap.size w wc))
   case first =>
    have H := HC23.out; clear HC23; by_cases c24 : x36_7 = true
    ·
     subst c24; have H1 : (if 0 ≤ a3 then (if a3 < (t102.length : Int) then (if 0 ≤ a2 then (if a2 < (t102.length : Int) then (spec_l12Less.j1 kj7 a2 a3 t109 (wrap64 ((rd t102 a3) - (rd t102 a2)))) else (none)) else (none)) else (none)) else (none)) = some r := by rw [if_pos rfl] at H; exact H
     clear H; have H := H1; clear H1; by_cases c25 : 0 ≤ a3
     ·
      rw [if_pos c25] at H; have c25b0 : decide (0 ≤ a3) = true := decide_eq_true c25; clear c25; (first | rw [c25b0] | (simp only [i64_w, i32_w]; rw [c25b0]) | skip); by_cases c26 : a3 < (t102.length : Int)
      ·
       rw [if_pos c26] at H; have c26b0 : decide (a3 < (t102.length : Int)) = true := decide_eq_true c26; clear c26; by_cases c27 : 0 ≤ a2
       ·
        rw [if_pos c27] at H; have c27b0 : decide (0 ≤ a2) = true := decide_eq_true c27; clear c27; by_cases c28 : a2 < (t102.length : Int)
        ·
         rw [if_pos c28] at H; have c28b0 : decide (a2 < (t102.length : Int)) = true := decide_eq_true c28; clear c28; have H' := Aside0.mk H; clear H; obtain ⟨Ao29, co29, eo29⟩ := Kd.R_slice HO_9.out; subst eo29; have p115 : 0 ≤ (a3 : Int) := ua; have q115 : a3 < (t102.length : Int) := ua; obtain ⟨ad115, e115, hx115_0⟩ := Kd.at_int (Kd.R_reads' HO_9.out).2.2 a3 p115 q115
         cases e115
         replace p115 := eq_true p115; replace q115 := eq_true q115; have p116 : 0 ≤ (a2 : Int) := ua; have q116 : a2 < (t102.length : Int) := ua; obtain ⟨ad116, e116, hx116_0⟩ := Kd.at_int (Kd.R_reads' HO_9.out).2.2 a2 p116 q116; obtain rfl : ad115 = ad116 := (by injection e116)
         replace p116 := eq_true p116; replace q116 := eq_true q116; go_wp2
         repeat (go_quiet (fail); try go_wp2)
         go_meet
         case rel => exact ⟨_, (wrap64 ((rd t102 a3) - (rd t102 a2))), ue, H', ⟨by have := HJ7.out; first | omega | exact Nat.le_refl _⟩, ⟨by (with_reducible repeat (first | apply Kd.R_alloc | apply Kd.R_drewN | apply Kd.R_drew)); exact Kd.R_mono HO_10.out (fun _ hk => trivial)⟩, ⟨ub BK101⟩, ⟨uB1 HB GE101.out⟩⟩
        ·
         rw [if_neg c28] at H; exact absurd H (by simp)
       ·
        rw [if_neg c27] at H; exact absurd H (by simp)
      ·
       rw [if_neg c26] at H; exact absurd H (by simp)
     ·
      rw [if_neg c25] at H; exact absurd H (by simp)
    ·
     replace c24 := Bool.eq_false_iff.mpr c24; subst c24; have H1 : (spec_l12Less.j1 kj7 a2 a3 t109 0) = some r := by rw [if_neg (show ¬ (false = true) by decide)] at H; exact H
     clear H; have H := H1; clear H1; have H' := Aside0.mk H; clear H; go_wp2
     repeat (go_quiet (fail); try go_wp2)
     go_meet
     case rel => exact ⟨_, (0), ue, H', ⟨by have := HJ7.out; first | omega | exact Nat.le_refl _⟩, ⟨by (with_reducible repeat (first | apply Kd.R_alloc | apply Kd.R_drewN | apply Kd.R_drew)); exact Kd.R_mono HO_10.out (fun _ hk => trivial)⟩, ⟨ub BK101⟩, ⟨uB1 HB GE101.out⟩⟩
   case rest =>
    clear HC23; try clear c1
    try clear p1
    try clear q1
    try clear hx1
    try clear c2
    try clear p2
    try clear p6
    try clear p11
    try clear q11
    try clear hx11
    try clear c16
    try clear c16b0
    try clear c17
    try clear c17b0
    try clear c18
    try clear c18b0
    try clear c19
    try clear c19b0
    try clear c20
    try clear c20b0
    try clear c24
    try clear c25
    try clear c25b0
    try clear c26
    try clear c26b0
    try clear c27
    try clear c27b0
    try clear c28
    try clear c28b0
    try clear hcz10_0
    try clear hcz10_1
    try clear hcz12_0
    try clear hcz12_1
    try clear hfz10_0
    try clear hfz10_1
    try clear hfz12_0
    try clear hfz12_1
    try clear hx112_0
    try clear hx113_0
    try clear hx114_0
    try clear hx115_0
    try clear hx116_0
    try clear p1
    try clear p11
    try clear p112
    try clear p113
    try clear p114
    try clear p115
    try clear p116
    try clear p2
    try clear p6
    try clear q1
    try clear q11
    try clear q112
    try clear q113
    try clear q114
    try clear q115
    try clear q116
    obtain ⟨kq, x11_22, rfl, HA, HJ22, HO_10, BK101, HB⟩ := hcut
    cases kq with
    | zero => exact absurd HA.out (by simp [spec_l12Less.j1])
    | succ kj22 =>
     have H := HA.out; clear HA; simp only [spec_l12Less.j1] at H; have HC30 := Aside0.mk H; clear H; go_upto_region 6 with (fail)
     repeat (go_quiet (fail); go_upto_region 6 with (fail))
     go_cut [63] (fun v63 wc => ∃ (kq : Nat) (x63_29 : Bool), v63 = .bool x63_29 ∧ Aside0 (spec_l12Less.j2 kq a2 a3 t109 x11_22 x63_29 = some r) ∧ Aside0 (kq ≤ kj22) ∧ Aside0 (Kd.R (Kd.int .i64) 3 wc w.heap.size (fun _ => True) v110 t109) ∧ Aside0 (wc.heap[gb101]? = some (.cells #[.int .i64 a0_0, (.slice A0_1 l0_1.length c0_1)] 25 (0, 0))) ∧ Aside0 (Below w.heap.size w wc))
     case first =>
      have H := HC30.out; clear HC30; by_cases c31 : 0 ≤ a3
      ·
       rw [if_pos c31] at H; have c31b0 : decide (0 ≤ a3) = true := decide_eq_true c31; clear c31; (first | rw [c31b0] | (simp only [i64_w, i32_w]; rw [c31b0]) | skip); by_cases c32 : a3 < (t109.length : Int)
       ·
        rw [if_pos c32] at H; have c32b0 : decide (a3 < (t109.length : Int)) = true := decide_eq_true c32; clear c32; by_cases c33 : (rd t109 a3) < 99999
        ·
         rw [if_pos c33] at H; have c33b0 : decide ((rd t109 a3) < 99999) = true := decide_eq_true c33; clear c33; by_cases c34 : 0 ≤ a2
         ·
          rw [if_pos c34] at H; have c34b0 : decide (0 ≤ a2) = true := decide_eq_true c34; clear c34; by_cases c35 : a2 < (t109.length : Int)
          ·
           rw [if_pos c35] at H; have c35b0 : decide (a2 < (t109.length : Int)) = true := decide_eq_true c35; clear c35; have H' := Aside0.mk H; clear H; obtain ⟨Ao36, co36, eo36⟩ := Kd.R_slice HO_10.out; subst eo36; have p117 : 0 ≤ (a3 : Int) := ua; have q117 : a3 < (t109.length : Int) := ua; obtain ⟨ad117, e117, hx117_0⟩ := Kd.at_int (Kd.R_reads' HO_10.out).2.2 a3 p117 q117
           cases e117
           replace p117 := eq_true p117; replace q117 := eq_true q117; have p118 : 0 ≤ (a2 : Int) := ua; have q118 : a2 < (t109.length : Int) := ua; obtain ⟨ad118, e118, hx118_0⟩ := Kd.at_int (Kd.R_reads' HO_10.out).2.2 a2 p118 q118; obtain rfl : ad117 = ad118 := (by injection e118)
           replace p118 := eq_true p118; replace q118 := eq_true q118; have p119 : 0 ≤ (a3 : Int) := ua; have q119 : a3 < (t109.length : Int) := ua; obtain ⟨ad119, e119, hx119_0⟩ := Kd.at_int (Kd.R_reads' HO_10.out).2.2 a3 p119 q119; obtain rfl : ad117 = ad119 := (by injection e119)
           replace p119 := eq_true p119; replace q119 := eq_true q119; go_wp2
           repeat (go_quiet (fail); try go_wp2)
           go_meet
           case rel => exact ⟨_, (decide ((wrap64 ((rd t109 a2) - (rd t109 a3))) > x11_22)), ue, H', ⟨by have := HJ7.out; have := HJ22.out; first | omega | exact Nat.le_refl _⟩, ⟨ur HO_10⟩, ⟨ub BK101⟩, ⟨uB1 HB GE101.out⟩⟩
          ·
           rw [if_neg c35] at H; exact absurd H (by simp)
         ·
          rw [if_neg c34] at H; exact absurd H (by simp)
        ·
         rw [if_neg c33] at H; have c33b0 : decide ((rd t109 a3) < 99999) = false := decide_eq_false c33; clear c33; have H' := Aside0.mk H; clear H; obtain ⟨Ao37, co37, eo37⟩ := Kd.R_slice HO_10.out; subst eo37; have p117 : 0 ≤ (a3 : Int) := ua; have q117 : a3 < (t109.length : Int) := ua; obtain ⟨ad117, e117, hx117_0⟩ := Kd.at_int (Kd.R_reads' HO_10.out).2.2 a3 p117 q117
         cases e117
         replace p117 := eq_true p117; replace q117 := eq_true q117; go_wp2
         repeat (go_quiet (fail); try go_wp2)
         go_meet
         case rel => exact ⟨_, (false), ue, H', ⟨by have := HJ7.out; have := HJ22.out; first | omega | exact Nat.le_refl _⟩, ⟨ur HO_10⟩, ⟨ub BK101⟩, ⟨uB1 HB GE101.out⟩⟩
       ·
        rw [if_neg c32] at H; exact absurd H (by simp)
      ·
       rw [if_neg c31] at H; exact absurd H (by simp)
     case rest =>
      clear HC30; try clear c1
      try clear p1
      try clear q1
      try clear hx1
      try clear c2
      try clear p2
      try clear c3
      try clear p6
      try clear p11
      try clear q11
      try clear hx11
      try clear c16
      try clear c16b0
      try clear c17
      try clear c17b0
      try clear c18
      try clear c18b0
      try clear c19
      try clear c19b0
      try clear c20
      try clear c20b0
      try clear c24
      try clear c25
      try clear c25b0
      try clear c26
      try clear c26b0
      try clear c27
      try clear c27b0
      try clear c28
      try clear c28b0
      try clear c31
      try clear c31b0
      try clear c32
      try clear c32b0
      try clear c33
      try clear c33b0
      try clear c34
      try clear c34b0
      try clear c35
      try clear c35b0
      try clear hcz10_0
      try clear hcz10_1
      try clear hcz12_0
      try clear hcz12_1
      try clear hfz10_0
      try clear hfz10_1
      try clear hfz12_0
      try clear hfz12_1
      try clear hx112_0
      try clear hx113_0
      try clear hx114_0
      try clear hx115_0
      try clear hx116_0
      try clear hx117_0
      try clear hx118_0
      try clear hx119_0
      try clear p1
      try clear p11
      try clear p112
      try clear p113
      try clear p114
      try clear p115
      try clear p116
      try clear p117
      try clear p118
      try clear p119
      try clear p2
      try clear p6
      try clear q1
      try clear q11
      try clear q112
      try clear q113
      try clear q114
      try clear q115
      try clear q116
      try clear q117
      try clear q118
      try clear q119
      obtain ⟨kq, x63_29, rfl, HA, HJ29, HO_10, BK101, HB⟩ := hcut
      cases kq with
      | zero => exact absurd HA.out (by simp [spec_l12Less.j2])
      | succ kj29 =>
       have H := HA.out; clear HA; simp only [spec_l12Less.j2] at H; by_cases c38 : x63_29 = true
       ·
        subst c38; have H1 : (if 0 ≤ a2 then (if a2 < (t109.length : Int) then (if 0 ≤ a3 then (if a3 < (t109.length : Int) then (if (wrap64 ((rd t109 a2) - (rd t109 a3))) > 49999 then (some 99999) else (some (wrap64 ((rd t109 a2) - (rd t109 a3))))) else (none)) else (none)) else (none)) else (none)) = some r := by rw [if_pos rfl] at H; exact H
        clear H; have H := H1; clear H1; by_cases c39 : 0 ≤ a2
        ·
         rw [if_pos c39] at H; have c39b0 : decide (0 ≤ a2) = true := decide_eq_true c39; clear c39; by_cases c40 : a2 < (t109.length : Int)
         ·
          rw [if_pos c40] at H; have c40b0 : decide (a2 < (t109.length : Int)) = true := decide_eq_true c40; clear c40; by_cases c41 : 0 ≤ a3
          ·
           rw [if_pos c41] at H; have c41b0 : decide (0 ≤ a3) = true := decide_eq_true c41; clear c41; by_cases c42 : a3 < (t109.length : Int)
           ·
            rw [if_pos c42] at H; have c42b0 : decide (a3 < (t109.length : Int)) = true := decide_eq_true c42; clear c42; by_cases c43 : (wrap64 ((rd t109 a2) - (rd t109 a3))) > 49999
            ·
             rw [if_pos c43] at H; have c43b0 : decide (49999 < (wrap64 ((rd t109 a2) - (rd t109 a3)))) = true := decide_eq_true c43; clear c43; obtain rfl := Option.some.inj H; obtain ⟨Ao44, co44, eo44⟩ := Kd.R_slice HO_10.out; subst eo44; have p120 : 0 ≤ (a2 : Int) := ua; have q120 : a2 < (t109.length : Int) := ua; obtain ⟨ad120, e120, hx120_0⟩ := Kd.at_int (Kd.R_reads' HO_10.out).2.2 a2 p120 q120
             cases e120
             replace p120 := eq_true p120; replace q120 := eq_true q120; have p121 : 0 ≤ (a3 : Int) := ua; have q121 : a3 < (t109.length : Int) := ua; obtain ⟨ad121, e121, hx121_0⟩ := Kd.at_int (Kd.R_reads' HO_10.out).2.2 a3 p121 q121; obtain rfl : ad120 = ad121 := (by injection e121)
             replace p121 := eq_true p121; replace q121 := eq_true q121; go_wp2
             repeat (go_quiet (fail); try go_wp2)
             go_ret; exact ⟨ux, uB1 HB GE101.out⟩
            ·
             rw [if_neg c43] at H; have c43b0 : decide (49999 < (wrap64 ((rd t109 a2) - (rd t109 a3)))) = false := decide_eq_false c43; clear c43; obtain rfl := Option.some.inj H; obtain ⟨Ao45, co45, eo45⟩ := Kd.R_slice HO_10.out; subst eo45; have p120 : 0 ≤ (a2 : Int) := ua; have q120 : a2 < (t109.length : Int) := ua; obtain ⟨ad120, e120, hx120_0⟩ := Kd.at_int (Kd.R_reads' HO_10.out).2.2 a2 p120 q120
             cases e120
             replace p120 := eq_true p120; replace q120 := eq_true q120; have p121 : 0 ≤ (a3 : Int) := ua; have q121 : a3 < (t109.length : Int) := ua; obtain ⟨ad121, e121, hx121_0⟩ := Kd.at_int (Kd.R_reads' HO_10.out).2.2 a3 p121 q121; obtain rfl : ad120 = ad121 := (by injection e121)
             replace p121 := eq_true p121; replace q121 := eq_true q121; go_wp2
             repeat (go_quiet (fail); try go_wp2)
             go_ret; exact ⟨ux, uB1 HB GE101.out⟩
           ·
            rw [if_neg c42] at H; exact absurd H (by simp)
          ·
           rw [if_neg c41] at H; exact absurd H (by simp)
         ·
          rw [if_neg c40] at H; exact absurd H (by simp)
        ·
         rw [if_neg c39] at H; exact absurd H (by simp)
       ·
        replace c38 := Bool.eq_false_iff.mpr c38; subst c38; have H1 : (if x11_22 > 49999 then (some 99999) else (some x11_22)) = some r := by rw [if_neg (show ¬ (false = true) by decide)] at H; exact H
        clear H; have H := H1; clear H1; by_cases c46 : x11_22 > 49999
        ·
         rw [if_pos c46] at H; have c46b0 : decide (49999 < x11_22) = true := decide_eq_true c46; clear c46; obtain rfl := Option.some.inj H; go_wp2
         repeat (go_quiet (fail); try go_wp2)
         go_ret; exact ⟨ux, uB1 HB GE101.out⟩
        ·
         rw [if_neg c46] at H; have c46b0 : decide (49999 < x11_22) = false := decide_eq_false c46; clear c46; obtain rfl := Option.some.inj H; go_wp2
         repeat (go_quiet (fail); try go_wp2)
         go_ret; exact ⟨ux, uB1 HB GE101.out⟩

end Go.Proofs.Ytjmpngfgfddpaaa.P
