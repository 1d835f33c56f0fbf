-- written for this claim by a program (wip/gen/myprint.py over the print tool). Not trusted: Lean checks it.
import Derived.Test.YtjmpngfgfddpaaaPx0
import Derived.Test.YtjmpngfgfddpaaaHUp
import Derived.Test.YtjmpngfgfddpaaaGWk
import Derived.Test.YtjmpngfgfddpaaaPFImplNetback
import Derived.Test.YtjmpngfgfddpaaaPFImplManynear
import Derived.Test.YtjmpngfgfddpaaaPFSpecDrawmanyserve
import Derived.Test.YtjmpngfgfddpaaaPFImplManyserve
import Derived.Test.YtjmpngfgfddpaaaPFSpecManyserve
namespace Go.Proofs.Ytjmpngfgfddpaaa.P
open Go.RowKit Go.Proofs.YtjmpngfgfddpaaaV.PrintWords Go.Proofs.YtjmpngfgfddpaaaV.PrintLast
set_option linter.unusedVariables false
set_option linter.unusedSimpArgs false

/-! ### laws_FnManyServe: function 18 -/
mutual
def laws_FnManyServe.j0 : Nat → List Int → List Int → Bool → Int → List (S33) → Option (Bool)
 | 0, _, _, _, _, _ => none
 | k + 1, x4, x5, x31, x109000, x109001 => if x31 = true then ((spec_ManyServe.f k x109000 x109001 x4).bind fun t116 => ((laws_wkInts.f k x5 t116).bind fun t119 => (some t119))) else ((impl_NetBack.f k x109000 x109001).bind fun bt120 => (laws_FnManyServe.l0 k x4 x5 0 x109000 x109001 bt120.1 bt120.2))
def laws_FnManyServe.l0 : Nat → List Int → List Int → Int → Int → List (S33) → Int → List (S33) → Option (Bool)
 | 0, _, _, _, _, _, _, _ => none
 | k + 1, x4, x5, x7, x109000, x109001, x125000, x125001 => if x7 < x109000 then ((impl_ManyNear.f k x125000 x125001 x7 x4).bind fun bt125 => (if 0 ≤ x7 then (if x7 < (x5.length : Int) then (if bt125.1 = (rd x5 x7) then (laws_FnManyServe.l0 k x4 x5 (wrap64 (x7 + 1)) x109000 x109001 x125000 x125001) else (some false)) else (none)) else (none))) else (some ((x5.length : Int) == x109000))
end
def laws_FnManyServe.f (k : Nat) (l0 : List Int) : Option (Bool) := if (l0.length : Int) > 1048576 then (some true) else ((spec_DrawManyServe.f k l0).bind fun bt101 => ((impl_ManyServe.f k bt101.1 bt101.2.1 bt101.2.2).bind fun t109 => ((spec_ManyServe.f k bt101.1 bt101.2.1 bt101.2.2).bind fun t112 => ((laws_wkInts.f k t109 t112).bind fun t115 => (if t115 = true then (laws_FnManyServe.j0 k bt101.2.2 t109 ((t109.length : Int) == 0) bt101.1 bt101.2.1) else (laws_FnManyServe.j0 k bt101.2.2 t109 true bt101.1 bt101.2.1))))))
set_option maxHeartbeats 8000000 in
set_option maxRecDepth 100000 in
theorem laws_FnManyServe.calls (k : Nat) (A0 : Option Addr) (c0 : Nat) (l0 : List Int) (w : World) (hr0 : Kd.C (Kd.int .u8) w A0 l0.length l0) (hc0 : l0.length ≤ c0) (h : laws_FnManyServe.f k l0 = some true) :
  Calls Try.prog 18 #[.slice A0 l0.length c0] w fun e w' => e = .returned (.bool true) ∧ Below w.heap.size w w' := by
 have hu25 := Try.underlying25
 have HR0 := Aside0.mk hr0
 have HC0 := Aside0.mk hc0
 clear hr0 hc0
 have HB := Aside0.mk (Below.refl w.heap.size w)
 have H : (if (l0.length : Int) > 1048576 then (some true) else ((spec_DrawManyServe.f k l0).bind fun bt101 => ((impl_ManyServe.f k bt101.1 bt101.2.1 bt101.2.2).bind fun t109 => ((spec_ManyServe.f k bt101.1 bt101.2.1 bt101.2.2).bind fun t112 => ((laws_wkInts.f k t109 t112).bind fun t115 => (if t115 = true then (laws_FnManyServe.j0 k bt101.2.2 t109 ((t109.length : Int) == 0) bt101.1 bt101.2.1) else (laws_FnManyServe.j0 k bt101.2.2 t109 true bt101.1 bt101.2.1))))))) = some true := h
 clear h
 by_cases c2 : (l0.length : Int) > 1048576
 ·
  rw [if_pos c2] at H
  have c2b0 : decide (1048576 < (l0.length : Int)) = true := decide_eq_true c2
  have c2b1 : decide (1048576 < l0.length) = true := decide_eq_true (by omega)
  clear c2
  clear H
  go_enter Try.func18, Try.ntmps18
  go_wp2
  go_ret
  exact ⟨by first | rfl | (simp [errW_none, errW_some] <;> rfl) | (simp [*, errW_none, errW_some] <;> rfl) | exact congrArg (fun b_ => Ending.returned (Value.bool b_)) HE_.out, by repeat (first | (with_reducible first | exact HB.out | apply below_alloc | apply pw_below_drewN | apply below_drew1) | exact HB.out)⟩
 ·
  rw [if_neg c2] at H
  have c2b0 : decide (1048576 < (l0.length : Int)) = false := decide_eq_false c2
  have c2b1 : decide (1048576 < l0.length) = false := decide_eq_false (by omega)
  clear c2
  replace H := Option.bind_eq_some_iff.mp H
  obtain ⟨⟨t101, t102, t105⟩, A30, H⟩ := H
  replace H : ((impl_ManyServe.f k t101 t102 t105).bind fun t109 => ((spec_ManyServe.f k t101 t102 t105).bind fun t112 => ((laws_wkInts.f k t109 t112).bind fun t115 => (if t115 = true then (laws_FnManyServe.j0 k t105 t109 ((t109.length : Int) == 0) t101 t102) else (laws_FnManyServe.j0 k t105 t109 true t101 t102))))) = some true := H
  have A3 := Aside0.mk A30
  clear A30
  replace H := Option.bind_eq_some_iff.mp H
  obtain ⟨t109, A40, H⟩ := H
  replace H : ((spec_ManyServe.f k t101 t102 t105).bind fun t112 => ((laws_wkInts.f k t109 t112).bind fun t115 => (if t115 = true then (laws_FnManyServe.j0 k t105 t109 ((t109.length : Int) == 0) t101 t102) else (laws_FnManyServe.j0 k t105 t109 true t101 t102)))) = some true := H
  have A4 := Aside0.mk A40
  clear A40
  have HC5 := Aside0.mk H
  clear H
  go_enter Try.func18, Try.ntmps18
  go_upto_region 5 with (first | ((with_reducible refine gate_callee (f := 75) rfl ?_); refine goesL_ (some 15) rfl rfl Try.func75 (by kernel_rfl) rfl #[.slice A0 l0.length c0] rfl ul ?_; (with_reducible refine (spec_DrawManyServe.calls k _ _ l0 t101 t102 t105 _ ?side1 ?side2 A3.out).mono ?_); (case side1 => repeat (first | exact HR0.out | (with_reducible refine Kd.C_alloc ?_ _) | (with_reducible refine Kd.C_drewN ?_ _) | (with_reducible refine Kd.C_drew ?_))); (case side2 => exact HC0.out); rintro e w6 ⟨v103, v106, rfl, ho0, ho1, hb⟩; refine ⟨_, rfl, ?_⟩; have n0_ := Aside0.mk (Kd.R_lower ho0 (below_size (uB0 HB))); have n1_ := Aside0.mk (Kd.R_lower ho1 (below_size (uB0 HB))); have n2_ := Aside0.mk (below_step (uB0 HB) hb); clear HB; have HO104 := n0_; have HO107 := n1_; have HB := n2_; clear n0_ n1_ n2_; (try clear hb); (try clear hb2); (try clear hk); (try clear hi); (try clear ho0); (try clear ho1)) | ((with_reducible refine gate_dst (N := 3) rfl ?_); refine box_event ?hg (N := 3) ?hd (cs := #[.int .i64 0, .slice none 0 0]) (t := 25) ?hr ?_; (case hd => rfl); (case hg => rfl); (case hr => first | (go_simp; done) | (go_simp; rfl)); intro gb108 hg w7 hbox hb; have n0_ := Aside0.mk (Kd.R_below (ur HO104) hb); have n1_ := Aside0.mk (Kd.R_below (ur HO107) hb); have n2_ := Aside0.mk (below_step (uB0 HB) hb); have n3_ := Aside0.mk (hbox); have n4_ := Aside0.mk ((by rw [hg]; exact (below_size (uB0 HB)) : w.heap.size ≤ gb108)); have n5_ := Aside0.mk ((by rw [hg]; exact (below_size (uB0 HB)) : w.heap.size ≤ gb108)); clear HO104; clear HO107; clear HB; have HO104 := n0_; have HO107 := n1_; have HB := n2_; have BK108 := n3_; have GW108 := n4_; have GE108 := n5_; clear n0_ n1_ n2_ n3_ n4_ n5_; clear hb hbox hg; have hcz8_0 : w7.cell? ⟨gb108, 0, none⟩ = some (.int .i64 0) := (blk_cell BK108.out 0).trans rfl; have hcz8_1 : w7.cell? ⟨gb108, 1, none⟩ = some (.slice none 0 0) := (blk_cell BK108.out 1).trans rfl; have hfz8_0 := blk_frozen BK108.out 0; have hfz8_1 := blk_frozen BK108.out 1; obtain ⟨Ao9, co9, eo9⟩ := Kd.R_slice HO104.out; subst eo9; obtain ⟨Ao10, co10, eo10⟩ := Kd.R_slice HO107.out; subst eo10) | ((with_reducible refine gate_callee (f := 76) rfl ?_); refine goesL_ (some 20) rfl rfl Try.func76 (by kernel_rfl) rfl #[.agg #[.int .i64 t101, .slice Ao9 t102.length co9], .slice Ao10 t105.length co10] rfl ul ?_; (with_reducible refine (impl_ManyServe.calls k t101 _ _ t102 _ _ t105 t109 _ ?side1 ?side2 ?side3 ?side4 A4.out).mono ?_); (case side1 => refine (Kd.R_reads' (e := 33) (base := w.heap.size) (ok := fun k_ => True) (n := t102.length) (c := co9) ?_).2.2; exact (by (with_reducible repeat (first | apply Kd.R_alloc | apply Kd.R_drewN | apply Kd.R_drew)); exact (Kd.R_mono (Kd.R_far (p := ⟨gb108, 1, none⟩) (Kd.R_far (p := ⟨gb108, 0, none⟩) (Kd.R_types HO104.out BK108.out (by decide)) (fun _ hk => hk.2) (.int .i64 t101)) (fun _ hk => hk.2) (.slice Ao9 t102.length co9)) (fun _ h_ => h_.1)))); (case side2 => exact (Kd.R_reads' HO104.out).2.1); (case side3 => refine (Kd.R_reads' (e := 3) (base := w.heap.size) (ok := fun k_ => True) (n := t105.length) (c := co10) ?_).2.2; exact (by (with_reducible repeat (first | apply Kd.R_alloc | apply Kd.R_drewN | apply Kd.R_drew)); exact (Kd.R_mono (Kd.R_far (p := ⟨gb108, 1, none⟩) (Kd.R_far (p := ⟨gb108, 0, none⟩) (Kd.R_types HO107.out BK108.out (by decide)) (fun _ hk => hk.2) (.int .i64 t101)) (fun _ hk => hk.2) (.slice Ao9 t102.length co9)) (fun _ h_ => h_.1)))); (case side4 => exact (Kd.R_reads' HO107.out).2.1); rintro e w11 ⟨v110, rfl, ho0, hb⟩; refine ⟨_, rfl, ?_⟩; have n0_ := Aside0.mk (Kd.R_below (by (with_reducible repeat (first | apply Kd.R_alloc | apply Kd.R_drewN | apply Kd.R_drew)); exact (Kd.R_mono (Kd.R_far (p := ⟨gb108, 1, none⟩) (Kd.R_far (p := ⟨gb108, 0, none⟩) (Kd.R_types HO104.out BK108.out (by decide)) (fun _ hk => hk.2) (.int .i64 t101)) (fun _ hk => hk.2) (.slice Ao9 t102.length co9)) (fun _ h_ => h_.1))) hb); have n1_ := Aside0.mk (Kd.R_elder' (by (with_reducible repeat (first | apply Kd.R_alloc | apply Kd.R_drewN | apply Kd.R_drew)); exact (Kd.R_mono (Kd.R_far (p := ⟨gb108, 1, none⟩) (Kd.R_far (p := ⟨gb108, 0, none⟩) (Kd.R_types HO107.out BK108.out (by decide)) (fun _ hk => hk.2) (.int .i64 t101)) (fun _ hk => hk.2) (.slice Ao9 t102.length co9)) (fun _ h_ => h_.1))) (Kd.R_base ho0) hb); have n2_ := Aside0.mk (Kd.R_lower (Kd.R_new' ho0 (Kd.R_lt (by (with_reducible repeat (first | apply Kd.R_alloc | apply Kd.R_drewN | apply Kd.R_drew)); exact (Kd.R_mono (Kd.R_far (p := ⟨gb108, 1, none⟩) (Kd.R_far (p := ⟨gb108, 0, none⟩) (Kd.R_types HO107.out BK108.out (by decide)) (fun _ hk => hk.2) (.int .i64 t101)) (fun _ hk => hk.2) (.slice Ao9 t102.length co9)) (fun _ h_ => h_.1))))) (below_size (uB1 HB GE108.out))); have n3_ := Aside0.mk (blk_below (g := gb108) (o := .cells #[.int .i64 t101, .slice Ao9 t102.length co9] 25 (0, 0)) (by (with_reducible repeat (first | refine blk_drewN ?_ _ | refine blk_drew ?_ | refine blk_alloc ?_ _)); refine blk_put (cs := #[.int .i64 t101, .slice none 0 0]) ?_ 1 _ rfl; (with_reducible repeat (first | refine blk_drewN ?_ _ | refine blk_drew ?_ | refine blk_alloc ?_ _)); refine blk_put (cs := #[.int .i64 0, .slice none 0 0]) ?_ 0 _ rfl; exact ub BK108) hb); have n4_ := Aside0.mk (below_step (uB1 HB GE108.out) hb); clear HO104; clear HO107; clear BK108; clear HB; have HO104 := n0_; have HO107 := n1_; have HO111 := n2_; have BK108 := n3_; have HB := n4_; clear n0_ n1_ n2_ n3_ n4_; (try clear hb); (try clear hb2); (try clear hk); (try clear hi); (try clear ho0)))
  (try simp only [Act.put, List.setIfInBounds_toArray, List.set_cons_zero, List.set_cons_succ])
  go_cut [31] (fun v31 wc => ∃ (kq : Nat) (x31_4 : Bool), v31 = .bool x31_4 ∧ Aside0 (laws_FnManyServe.j0 kq t105 t109 x31_4 t101 t102 = some true) ∧ Aside0 (kq ≤ k) ∧ Aside0 (Kd.R (Kd.int .i64) 3 wc w.heap.size (fun k_ => some k_ ≠ (v110 : Value).ownBlock) (.slice Ao10 t105.length co10) t105) ∧ Aside0 (Kd.R (Kd.int .i64) 3 wc w.heap.size (fun k_ => some k_ ≠ ((.slice Ao10 t105.length co10) : Value).ownBlock) v110 t109) ∧ Aside0 (Kd.R k33 33 wc w.heap.size (fun _ => True) (.slice Ao9 t102.length co9) t102) ∧ Aside0 (wc.heap[gb108]? = some (.cells #[.int .i64 t101, (.slice Ao9 t102.length co9)] 25 (0, 0))) ∧ Aside0 (Below w.heap.size w wc))
  case first =>
   have H := HC5.out
   clear HC5
   replace H := Option.bind_eq_some_iff.mp H
   obtain ⟨t112, A120, H⟩ := H
   replace H : ((laws_wkInts.f k t109 t112).bind fun t115 => (if t115 = true then (laws_FnManyServe.j0 k t105 t109 ((t109.length : Int) == 0) t101 t102) else (laws_FnManyServe.j0 k t105 t109 true t101 t102))) = some true := H
   have A12 := Aside0.mk A120
   clear A120
   replace H := Option.bind_eq_some_iff.mp H
   obtain ⟨t115, A130, H⟩ := H
   replace H : (if t115 = true then (laws_FnManyServe.j0 k t105 t109 ((t109.length : Int) == 0) t101 t102) else (laws_FnManyServe.j0 k t105 t109 true t101 t102)) = some true := H
   have A13 := Aside0.mk A130
   clear A130
   by_cases c14 : t115 = true
   ·
    subst c14
    have H1 : (laws_FnManyServe.j0 k t105 t109 ((t109.length : Int) == 0) t101 t102) = some true := by rw [if_pos rfl] at H; exact H
    clear H
    have H := H1
    clear H1
    have H' := Aside0.mk H
    clear H
    have hcz15_0 : w11.cell? ⟨gb108, 0, none⟩ = some (.int .i64 t101) := (blk_cell BK108.out 0).trans rfl
    have hcz15_1 : w11.cell? ⟨gb108, 1, none⟩ = some (.slice Ao9 t102.length co9) := (blk_cell BK108.out 1).trans rfl
    have hfz15_0 := blk_frozen BK108.out 0
    have hfz15_1 := blk_frozen BK108.out 1
    go_wp2_with (first | ((with_reducible refine gate_callee (f := 77) rfl ?_); refine goesL_ (some 24) rfl rfl Try.func77 (by kernel_rfl) rfl #[.agg #[.int .i64 t101, .slice Ao9 t102.length co9], .slice Ao10 t105.length co10] rfl ul ?_; (with_reducible refine (spec_ManyServe.calls k t101 _ _ t102 _ _ t105 t112 _ ?side1 ?side2 ?side3 ?side4 A12.out).mono ?_); (case side1 => repeat (first | exact (Kd.R_reads' HO104.out).2.2 | (with_reducible refine Kd.C_alloc ?_ _) | (with_reducible refine Kd.C_drewN ?_ _) | (with_reducible refine Kd.C_drew ?_))); (case side2 => exact (Kd.R_reads' HO104.out).2.1); (case side3 => repeat (first | exact (Kd.R_reads' HO107.out).2.2 | (with_reducible refine Kd.C_alloc ?_ _) | (with_reducible refine Kd.C_drewN ?_ _) | (with_reducible refine Kd.C_drew ?_))); (case side4 => exact (Kd.R_reads' HO107.out).2.1); rintro e w16 ⟨v113, rfl, ho0, hb⟩; refine ⟨_, rfl, ?_⟩; have n0_ := Aside0.mk (Kd.R_below (ur HO104) hb); have n1_ := Aside0.mk (Kd.R_elder' (ur HO107) (Kd.R_base ho0) hb); have n2_ := Aside0.mk (Kd.R_elder' (ur HO111) (Kd.R_base ho0) hb); have n3_ := Aside0.mk (Kd.R_lower (Kd.R_new' (Kd.R_new' ho0 (Kd.R_lt (ur HO107))) (Kd.R_lt (ur HO111))) (below_size (uB1 HB GE108.out))); have n4_ := Aside0.mk (blk_below (g := gb108) (o := .cells #[.int .i64 t101, .slice Ao9 t102.length co9] 25 (0, 0)) (ub BK108) hb); have n5_ := Aside0.mk (below_step (uB1 HB GE108.out) hb); clear HO104; clear HO107; clear HO111; clear BK108; clear HB; have HO104 := n0_; have HO107 := n1_; have HO111 := n2_; have HO114 := n3_; have BK108 := n4_; have HB := n5_; clear n0_ n1_ n2_ n3_ n4_ n5_; (try clear hb); (try clear hb2); (try clear hk); (try clear hi); (try clear ho0); obtain ⟨Ao17, co17, eo17⟩ := Kd.R_slice HO111.out; subst eo17; obtain ⟨Ao18, co18, eo18⟩ := Kd.R_slice HO114.out; subst eo18) | ((with_reducible refine gate_callee (f := 35) rfl ?_); refine goesL_ (some 25) rfl rfl Try.func35 (by kernel_rfl) rfl #[.slice Ao17 t109.length co17, .slice Ao18 t112.length co18] rfl ul ?_; (with_reducible refine (laws_wkInts.calls k _ _ t109 _ _ t112 true _ ?side1 ?side2 ?side3 ?side4 A13.out).mono ?_); (case side1 => repeat (first | exact (Kd.R_reads' HO111.out).2.2 | (with_reducible refine Kd.C_alloc ?_ _) | (with_reducible refine Kd.C_drewN ?_ _) | (with_reducible refine Kd.C_drew ?_))); (case side2 => exact (Kd.R_reads' HO111.out).2.1); (case side3 => repeat (first | exact (Kd.R_reads' HO114.out).2.2 | (with_reducible refine Kd.C_alloc ?_ _) | (with_reducible refine Kd.C_drewN ?_ _) | (with_reducible refine Kd.C_drew ?_))); (case side4 => exact (Kd.R_reads' HO114.out).2.1); rintro e w' ⟨rfl, ⟨nd, rfl⟩⟩; refine ⟨_, rfl, ?_⟩))
    go_meet
    case rel => exact ⟨_, (((t109.length : Int) == 0)), ue, H', ⟨by first | omega | exact Nat.le_refl _⟩, ⟨by (with_reducible repeat (first | apply Kd.R_alloc | apply Kd.R_drewN | apply Kd.R_drew)); exact Kd.R_mono HO107.out (fun _ hk => hk.1.2)⟩, ⟨by (with_reducible repeat (first | apply Kd.R_alloc | apply Kd.R_drewN | apply Kd.R_drew)); exact Kd.R_mono HO111.out (fun _ hk => hk.1.2)⟩, ⟨ur HO104⟩, ⟨ub BK108⟩, ⟨uB1 HB GE108.out⟩⟩
   ·
    replace c14 := Bool.eq_false_iff.mpr c14
    subst c14
    have H1 : (laws_FnManyServe.j0 k t105 t109 true t101 t102) = some true := by rw [if_neg (show ¬ (false = true) by decide)] at H; exact H
    clear H
    have H := H1
    clear H1
    have H' := Aside0.mk H
    clear H
    have hcz19_0 : w11.cell? ⟨gb108, 0, none⟩ = some (.int .i64 t101) := (blk_cell BK108.out 0).trans rfl
    have hcz19_1 : w11.cell? ⟨gb108, 1, none⟩ = some (.slice Ao9 t102.length co9) := (blk_cell BK108.out 1).trans rfl
    have hfz19_0 := blk_frozen BK108.out 0
    have hfz19_1 := blk_frozen BK108.out 1
    go_wp2_with (first | ((with_reducible refine gate_callee (f := 77) rfl ?_); refine goesL_ (some 24) rfl rfl Try.func77 (by kernel_rfl) rfl #[.agg #[.int .i64 t101, .slice Ao9 t102.length co9], .slice Ao10 t105.length co10] rfl ul ?_; (with_reducible refine (spec_ManyServe.calls k t101 _ _ t102 _ _ t105 t112 _ ?side1 ?side2 ?side3 ?side4 A12.out).mono ?_); (case side1 => repeat (first | exact (Kd.R_reads' HO104.out).2.2 | (with_reducible refine Kd.C_alloc ?_ _) | (with_reducible refine Kd.C_drewN ?_ _) | (with_reducible refine Kd.C_drew ?_))); (case side2 => exact (Kd.R_reads' HO104.out).2.1); (case side3 => repeat (first | exact (Kd.R_reads' HO107.out).2.2 | (with_reducible refine Kd.C_alloc ?_ _) | (with_reducible refine Kd.C_drewN ?_ _) | (with_reducible refine Kd.C_drew ?_))); (case side4 => exact (Kd.R_reads' HO107.out).2.1); rintro e w20 ⟨v113, rfl, ho0, hb⟩; refine ⟨_, rfl, ?_⟩; have n0_ := Aside0.mk (Kd.R_below (ur HO104) hb); have n1_ := Aside0.mk (Kd.R_elder' (ur HO107) (Kd.R_base ho0) hb); have n2_ := Aside0.mk (Kd.R_elder' (ur HO111) (Kd.R_base ho0) hb); have n3_ := Aside0.mk (Kd.R_lower (Kd.R_new' (Kd.R_new' ho0 (Kd.R_lt (ur HO107))) (Kd.R_lt (ur HO111))) (below_size (uB1 HB GE108.out))); have n4_ := Aside0.mk (blk_below (g := gb108) (o := .cells #[.int .i64 t101, .slice Ao9 t102.length co9] 25 (0, 0)) (ub BK108) hb); have n5_ := Aside0.mk (below_step (uB1 HB GE108.out) hb); clear HO104; clear HO107; clear HO111; clear BK108; clear HB; have HO104 := n0_; have HO107 := n1_; have HO111 := n2_; have HO114 := n3_; have BK108 := n4_; have HB := n5_; clear n0_ n1_ n2_ n3_ n4_ n5_; (try clear hb); (try clear hb2); (try clear hk); (try clear hi); (try clear ho0); obtain ⟨Ao21, co21, eo21⟩ := Kd.R_slice HO111.out; subst eo21; obtain ⟨Ao22, co22, eo22⟩ := Kd.R_slice HO114.out; subst eo22) | ((with_reducible refine gate_callee (f := 35) rfl ?_); refine goesL_ (some 25) rfl rfl Try.func35 (by kernel_rfl) rfl #[.slice Ao21 t109.length co21, .slice Ao22 t112.length co22] rfl ul ?_; (with_reducible refine (laws_wkInts.calls k _ _ t109 _ _ t112 false _ ?side1 ?side2 ?side3 ?side4 A13.out).mono ?_); (case side1 => repeat (first | exact (Kd.R_reads' HO111.out).2.2 | (with_reducible refine Kd.C_alloc ?_ _) | (with_reducible refine Kd.C_drewN ?_ _) | (with_reducible refine Kd.C_drew ?_))); (case side2 => exact (Kd.R_reads' HO111.out).2.1); (case side3 => repeat (first | exact (Kd.R_reads' HO114.out).2.2 | (with_reducible refine Kd.C_alloc ?_ _) | (with_reducible refine Kd.C_drewN ?_ _) | (with_reducible refine Kd.C_drew ?_))); (case side4 => exact (Kd.R_reads' HO114.out).2.1); rintro e w' ⟨rfl, ⟨nd, rfl⟩⟩; refine ⟨_, rfl, ?_⟩))
    go_meet
    case rel => exact ⟨_, (true), ue, H', ⟨by first | omega | exact Nat.le_refl _⟩, ⟨by (with_reducible repeat (first | apply Kd.R_alloc | apply Kd.R_drewN | apply Kd.R_drew)); exact Kd.R_mono HO107.out (fun _ hk => hk.1.2)⟩, ⟨by (with_reducible repeat (first | apply Kd.R_alloc | apply Kd.R_drewN | apply Kd.R_drew)); exact Kd.R_mono HO111.out (fun _ hk => hk.1.2)⟩, ⟨ur HO104⟩, ⟨ub BK108⟩, ⟨uB1 HB GE108.out⟩⟩
  case rest =>
   clear HC5
   try clear c1
   try clear c2
   try clear c2b0
   try clear c2b1
   try clear p2
   try clear c3
   try clear c7
   try clear c14
   try clear c18
   try clear hcz15_0
   try clear hcz15_1
   try clear hcz19_0
   try clear hcz19_1
   try clear hcz8_0
   try clear hcz8_1
   try clear hfz15_0
   try clear hfz15_1
   try clear hfz19_0
   try clear hfz19_1
   try clear hfz8_0
   try clear hfz8_1
   obtain ⟨kq, x31_4, rfl, HA, HJ4, HO_4, HO_5, HO_109001, BK108, HB⟩ := hcut
   cases kq with
   | zero => exact absurd HA.out (by simp [laws_FnManyServe.j0])
   | succ kj4 =>
    have H := HA.out
    clear HA
    simp only [laws_FnManyServe.j0] at H
    by_cases c23 : x31_4 = true
    ·
     subst c23
     have H1 : ((spec_ManyServe.f kj4 t101 t102 t105).bind fun t116 => ((laws_wkInts.f kj4 t109 t116).bind fun t119 => (some t119))) = some true := by rw [if_pos rfl] at H; exact H
     clear H
     have H := H1
     clear H1
     replace H := Option.bind_eq_some_iff.mp H
     obtain ⟨t116, A240, H⟩ := H
     replace H : ((laws_wkInts.f kj4 t109 t116).bind fun t119 => (some t119)) = some true := H
     have A24 := Aside0.mk A240
     clear A240
     replace H := Option.bind_eq_some_iff.mp H
     obtain ⟨t119, A250, H⟩ := H
     replace H : (some t119) = some true := H
     have A25 := Aside0.mk A250
     clear A250
     have HE_ := Aside0.mk (Option.some.inj H)
     clear H
     have hcz26_0 : wc.cell? ⟨gb108, 0, none⟩ = some (.int .i64 t101) := (blk_cell BK108.out 0).trans rfl
     have hcz26_1 : wc.cell? ⟨gb108, 1, none⟩ = some (.slice Ao9 t102.length co9) := (blk_cell BK108.out 1).trans rfl
     have hfz26_0 := blk_frozen BK108.out 0
     have hfz26_1 := blk_frozen BK108.out 1
     go_wp2_with (first | ((with_reducible refine gate_callee (f := 77) rfl ?_); refine goesL_ (some 35) rfl rfl Try.func77 (by kernel_rfl) rfl #[.agg #[.int .i64 t101, .slice Ao9 t102.length co9], .slice Ao10 t105.length co10] rfl ul ?_; (with_reducible refine (spec_ManyServe.calls kj4 t101 _ _ t102 _ _ t105 t116 _ ?side1 ?side2 ?side3 ?side4 A24.out).mono ?_); (case side1 => repeat (first | exact (Kd.R_reads' HO_109001.out).2.2 | (with_reducible refine Kd.C_alloc ?_ _) | (with_reducible refine Kd.C_drewN ?_ _) | (with_reducible refine Kd.C_drew ?_))); (case side2 => exact (Kd.R_reads' HO_109001.out).2.1); (case side3 => repeat (first | exact (Kd.R_reads' HO_4.out).2.2 | (with_reducible refine Kd.C_alloc ?_ _) | (with_reducible refine Kd.C_drewN ?_ _) | (with_reducible refine Kd.C_drew ?_))); (case side4 => exact (Kd.R_reads' HO_4.out).2.1); rintro e w27 ⟨v117, rfl, ho0, hb⟩; refine ⟨_, rfl, ?_⟩; have n0_ := Aside0.mk (Kd.R_elder' (ur HO_4) (Kd.R_base ho0) hb); have n1_ := Aside0.mk (Kd.R_elder' (ur HO_5) (Kd.R_base ho0) hb); have n2_ := Aside0.mk (Kd.R_below (ur HO_109001) hb); have n3_ := Aside0.mk (Kd.R_lower (Kd.R_new' (Kd.R_new' ho0 (Kd.R_lt (ur HO_4))) (Kd.R_lt (ur HO_5))) (below_size (uB1 HB GE108.out))); have n4_ := Aside0.mk (blk_below (g := gb108) (o := .cells #[.int .i64 t101, .slice Ao9 t102.length co9] 25 (0, 0)) (ub BK108) hb); have n5_ := Aside0.mk (below_step (uB1 HB GE108.out) hb); clear HO_4; clear HO_5; clear HO_109001; clear BK108; clear HB; have HO_4 := n0_; have HO_5 := n1_; have HO_109001 := n2_; have HO118 := n3_; have BK108 := n4_; have HB := n5_; clear n0_ n1_ n2_ n3_ n4_ n5_; (try clear hb); (try clear hb2); (try clear hk); (try clear hi); (try clear ho0); obtain ⟨Ao28, co28, eo28⟩ := Kd.R_slice HO_5.out; subst eo28; obtain ⟨Ao29, co29, eo29⟩ := Kd.R_slice HO118.out; subst eo29) | ((with_reducible refine gate_callee (f := 35) rfl ?_); refine goesL_ (some 36) rfl rfl Try.func35 (by kernel_rfl) rfl #[.slice Ao28 t109.length co28, .slice Ao29 t116.length co29] rfl ul ?_; (with_reducible refine (laws_wkInts.calls kj4 _ _ t109 _ _ t116 t119 _ ?side1 ?side2 ?side3 ?side4 A25.out).mono ?_); (case side1 => repeat (first | exact (Kd.R_reads' HO_5.out).2.2 | (with_reducible refine Kd.C_alloc ?_ _) | (with_reducible refine Kd.C_drewN ?_ _) | (with_reducible refine Kd.C_drew ?_))); (case side2 => exact (Kd.R_reads' HO_5.out).2.1); (case side3 => repeat (first | exact (Kd.R_reads' HO118.out).2.2 | (with_reducible refine Kd.C_alloc ?_ _) | (with_reducible refine Kd.C_drewN ?_ _) | (with_reducible refine Kd.C_drew ?_))); (case side4 => exact (Kd.R_reads' HO118.out).2.1); rintro e w' ⟨rfl, ⟨nd, rfl⟩⟩; refine ⟨_, rfl, ?_⟩))
     go_ret
     exact ⟨by first | rfl | (simp [errW_none, errW_some] <;> rfl) | (simp [*, errW_none, errW_some] <;> rfl) | exact congrArg (fun b_ => Ending.returned (Value.bool b_)) HE_.out, by repeat (first | (with_reducible first | exact HB.out | apply below_alloc | apply pw_below_drewN | apply below_drew1 | refine below_set ?_ GE108.out) | exact HB.out)⟩
    ·
     replace c23 := Bool.eq_false_iff.mpr c23
     subst c23
     have H1 : ((impl_NetBack.f kj4 t101 t102).bind fun bt120 => (laws_FnManyServe.l0 kj4 t105 t109 0 t101 t102 bt120.1 bt120.2)) = some true := by rw [if_neg (show ¬ (false = true) by decide)] at H; exact H
     clear H
     have H := H1
     clear H1
     replace H := Option.bind_eq_some_iff.mp H
     obtain ⟨⟨t120, t121⟩, A300, H⟩ := H
     replace H : (laws_FnManyServe.l0 kj4 t105 t109 0 t101 t102 t120 t121) = some true := H
     have A30 := Aside0.mk A300
     clear A300
     have H' := Aside0.mk H
     clear H
     have hcz31_0 : wc.cell? ⟨gb108, 0, none⟩ = some (.int .i64 t101) := (blk_cell BK108.out 0).trans rfl
     have hcz31_1 : wc.cell? ⟨gb108, 1, none⟩ = some (.slice Ao9 t102.length co9) := (blk_cell BK108.out 1).trans rfl
     have hfz31_0 := blk_frozen BK108.out 0
     have hfz31_1 := blk_frozen BK108.out 1
     go_wp2_with (first | ((with_reducible refine gate_callee (f := 45) rfl ?_); refine goesL_ (some 38) rfl rfl Try.func45 (by kernel_rfl) rfl #[.agg #[.int .i64 t101, .slice Ao9 t102.length co9]] rfl ul ?_; (with_reducible refine (impl_NetBack.calls kj4 t101 _ _ t102 t120 t121 _ ?side1 ?side2 A30.out).mono ?_); (case side1 => repeat (first | exact (Kd.R_reads' HO_109001.out).2.2 | (with_reducible refine Kd.C_alloc ?_ _) | (with_reducible refine Kd.C_drewN ?_ _) | (with_reducible refine Kd.C_drew ?_))); (case side2 => exact (Kd.R_reads' HO_109001.out).2.1); rintro e w32 ⟨v122, rfl, ho0, hb⟩; refine ⟨_, rfl, ?_⟩; have n0_ := Aside0.mk (Kd.R_below (ur HO_4) hb); have n1_ := Aside0.mk (Kd.R_below (ur HO_5) hb); have n2_ := Aside0.mk (Kd.R_elder' (ur HO_109001) (Kd.R_base ho0) hb); have n3_ := Aside0.mk (Kd.R_lower (Kd.R_new' ho0 (Kd.R_lt (ur HO_109001))) (below_size (uB1 HB GE108.out))); have n4_ := Aside0.mk (blk_below (g := gb108) (o := .cells #[.int .i64 t101, .slice Ao9 t102.length co9] 25 (0, 0)) (ub BK108) hb); have n5_ := Aside0.mk (below_step (uB1 HB GE108.out) hb); clear HO_4; clear HO_5; clear HO_109001; clear BK108; clear HB; have HO_4 := n0_; have HO_5 := n1_; have HO_109001 := n2_; have HO123 := n3_; have BK108 := n4_; have HB := n5_; clear n0_ n1_ n2_ n3_ n4_ n5_; (try clear hb); (try clear hb2); (try clear hk); (try clear hi); (try clear ho0)) | ((with_reducible refine gate_dst (N := 6) rfl ?_); refine box_event ?hg (N := 6) ?hd (cs := #[.int .i64 0, .slice none 0 0]) (t := 25) ?hr ?_; (case hd => rfl); (case hg => rfl); (case hr => first | (go_simp; done) | (go_simp; rfl)); intro gb124 hg w33 hbox hb; have n0_ := Aside0.mk (Kd.R_below (ur HO_4) hb); have n1_ := Aside0.mk (Kd.R_below (ur HO_5) hb); have n2_ := Aside0.mk (Kd.R_below (ur HO_109001) hb); have n3_ := Aside0.mk (Kd.R_below (ur HO123) hb); have n4_ := Aside0.mk (blk_below (g := gb108) (o := .cells #[.int .i64 t101, .slice Ao9 t102.length co9] 25 (0, 0)) (ub BK108) hb); have n5_ := Aside0.mk (below_step (uB1 HB GE108.out) hb); have n6_ := Aside0.mk (hbox); have n7_ := Aside0.mk ((by rw [hg]; exact (below_size (uB1 HB GE108.out)) : w.heap.size ≤ gb124)); have n8_ := Aside0.mk ((by rw [hg]; exact (below_size (uB1 HB GE108.out)) : w.heap.size ≤ gb124)); have n9_ := Aside0.mk ((by rw [hg]; exact Nat.ne_of_lt (blk_lt (g := gb108) (o := .cells #[.int .i64 t101, .slice Ao9 t102.length co9] 25 (0, 0)) (ub BK108)) : gb108 ≠ gb124)); have n10_ := Aside0.mk ((by rw [hg]; exact Nat.ne_of_gt (blk_lt (g := gb108) (o := .cells #[.int .i64 t101, .slice Ao9 t102.length co9] 25 (0, 0)) (ub BK108)) : gb124 ≠ gb108)); clear HO_4; clear HO_5; clear HO_109001; clear HO123; clear BK108; clear HB; have HO_4 := n0_; have HO_5 := n1_; have HO_109001 := n2_; have HO123 := n3_; have BK108 := n4_; have HB := n5_; have BK124 := n6_; have GW124 := n7_; have GE124 := n8_; have NB108_124 := n9_; have NB124_108 := n10_; clear n0_ n1_ n2_ n3_ n4_ n5_ n6_ n7_ n8_ n9_ n10_; clear hb hbox hg; have hnb34 := NB124_108.out; have hnc34 := NB108_124.out; have hcz35_0 : w33.cell? ⟨gb124, 0, none⟩ = some (.int .i64 0) := (blk_cell BK124.out 0).trans rfl; have hcz35_1 : w33.cell? ⟨gb124, 1, none⟩ = some (.slice none 0 0) := (blk_cell BK124.out 1).trans rfl; have hfz35_0 := blk_frozen BK124.out 0; have hfz35_1 := blk_frozen BK124.out 1; obtain ⟨Ao36, co36, eo36⟩ := Kd.R_slice HO123.out; subst eo36))
     go_loopg [7] kj4 (fun kq v7 w' => ∃ (x7_2 : Int), v7 = .int .i64 x7_2 ∧ Aside0 (laws_FnManyServe.l0 kq t105 t109 x7_2 t101 t102 t120 t121 = some true) ∧ Aside0 (kq ≤ kj4) ∧ Aside0 (Kd.R (Kd.int .i64) 3 w' w.heap.size (fun k_ => some k_ ≠ (v110 : Value).ownBlock) (.slice Ao10 t105.length co10) t105) ∧ Aside0 (Kd.R (Kd.int .i64) 3 w' w.heap.size (fun k_ => some k_ ≠ ((.slice Ao10 t105.length co10) : Value).ownBlock) v110 t109) ∧ Aside0 (Kd.R k33 33 w' w.heap.size (fun k_ => some k_ ≠ ((.slice Ao36 t121.length co36) : Value).ownBlock) (.slice Ao9 t102.length co9) t102) ∧ Aside0 (Kd.R k33 33 w' w.heap.size (fun k_ => some k_ ≠ ((.slice Ao9 t102.length co9) : Value).ownBlock) (.slice Ao36 t121.length co36) t121) ∧ Aside0 (w'.heap[gb108]? = some (.cells #[.int .i64 t101, (.slice Ao9 t102.length co9)] 25 (0, 0))) ∧ Aside0 (w'.heap[gb124]? = some (.cells #[.int .i64 t120, (.slice Ao36 t121.length co36)] 25 (0, 0))) ∧ Aside0 (Below w.heap.size w w'))
     case atStart => exact ⟨(0), ue, H', ⟨Nat.le_refl _⟩, ⟨by (with_reducible repeat (first | apply Kd.R_alloc | apply Kd.R_drewN | apply Kd.R_drew)); exact Kd.R_mono (Kd.R_far (p := ⟨gb124, 1, none⟩) (Kd.R_far (p := ⟨gb124, 0, none⟩) (Kd.R_types HO_4.out BK124.out (by decide)) (fun _ hk => hk.2) (.int .i64 t120)) (fun _ hk => hk.2) (.slice Ao36 t121.length co36)) (fun _ hk => hk.1)⟩, ⟨by (with_reducible repeat (first | apply Kd.R_alloc | apply Kd.R_drewN | apply Kd.R_drew)); exact Kd.R_mono (Kd.R_far (p := ⟨gb124, 1, none⟩) (Kd.R_far (p := ⟨gb124, 0, none⟩) (Kd.R_types HO_5.out BK124.out (by decide)) (fun _ hk => hk.2) (.int .i64 t120)) (fun _ hk => hk.2) (.slice Ao36 t121.length co36)) (fun _ hk => hk.1)⟩, ⟨by (with_reducible repeat (first | apply Kd.R_alloc | apply Kd.R_drewN | apply Kd.R_drew)); exact Kd.R_mono (Kd.R_far (p := ⟨gb124, 1, none⟩) (Kd.R_far (p := ⟨gb124, 0, none⟩) (Kd.R_types HO_109001.out BK124.out (by decide)) (fun _ hk => hk.2) (.int .i64 t120)) (fun _ hk => hk.2) (.slice Ao36 t121.length co36)) (fun _ hk => hk.1.2)⟩, ⟨by (with_reducible repeat (first | apply Kd.R_alloc | apply Kd.R_drewN | apply Kd.R_drew)); exact Kd.R_mono (Kd.R_far (p := ⟨gb124, 1, none⟩) (Kd.R_far (p := ⟨gb124, 0, none⟩) (Kd.R_types HO123.out BK124.out (by decide)) (fun _ hk => hk.2) (.int .i64 t120)) (fun _ hk => hk.2) (.slice Ao36 t121.length co36)) (fun _ hk => hk.1.2)⟩, ⟨by (with_reducible repeat (first | refine blk_drewN ?_ _ | refine blk_drew ?_ | refine blk_alloc ?_ _)); refine blk_far ?_ NB108_124.out _; (with_reducible repeat (first | refine blk_drewN ?_ _ | refine blk_drew ?_ | refine blk_alloc ?_ _)); refine blk_far ?_ NB108_124.out _; exact ub BK108⟩, ⟨by (with_reducible repeat (first | refine blk_drewN ?_ _ | refine blk_drew ?_ | refine blk_alloc ?_ _)); refine blk_put (cs := #[.int .i64 t120, .slice none 0 0]) ?_ 1 _ rfl; (with_reducible repeat (first | refine blk_drewN ?_ _ | refine blk_drew ?_ | refine blk_alloc ?_ _)); refine blk_put (cs := #[.int .i64 0, .slice none 0 0]) ?_ 0 _ rfl; exact ub BK124⟩, ⟨uB2 HB GE108.out GE124.out⟩⟩
     case round =>
      clear H'
      try clear c1
      try clear c2
      try clear c2b0
      try clear c2b1
      try clear p2
      try clear c3
      try clear c4
      try clear c7
      try clear c14
      try clear c18
      try clear c23
      try clear c34
      try clear c35
      try clear hcz15_0
      try clear hcz15_1
      try clear hcz19_0
      try clear hcz19_1
      try clear hcz26_0
      try clear hcz26_1
      try clear hcz31_0
      try clear hcz31_1
      try clear hcz35_0
      try clear hcz35_1
      try clear hcz8_0
      try clear hcz8_1
      try clear hfz15_0
      try clear hfz15_1
      try clear hfz19_0
      try clear hfz19_1
      try clear hfz26_0
      try clear hfz26_1
      try clear hfz31_0
      try clear hfz31_1
      try clear hfz35_0
      try clear hfz35_1
      try clear hfz8_0
      try clear hfz8_1
      try clear p2
      obtain ⟨x7_2, rfl, HA, HK2, HO_4, HO_5, HO_109001, HO_125001, BK108, BK124, HB⟩ := hrel
      cases gk with
      | zero => exact absurd HA.out (by simp [laws_FnManyServe.l0])
      | succ k2 =>
       have H := HA.out
       clear HA
       simp only [laws_FnManyServe.l0] at H
       by_cases c37 : x7_2 < t101
       ·
        rw [if_pos c37] at H
        have c37b0 : decide (x7_2 < t101) = true := decide_eq_true c37
        clear c37
        replace H := Option.bind_eq_some_iff.mp H
        obtain ⟨⟨t125, t126⟩, A380, H⟩ := H
        replace H : (if 0 ≤ x7_2 then (if x7_2 < (t109.length : Int) then (if t125 = (rd t109 x7_2) then (laws_FnManyServe.l0 k2 t105 t109 (wrap64 (x7_2 + 1)) t101 t102 t120 t121) else (some false)) else (none)) else (none)) = some true := H
        have A38 := Aside0.mk A380
        clear A380
        by_cases c39 : 0 ≤ x7_2
        ·
         rw [if_pos c39] at H
         have c39b0 : decide (0 ≤ x7_2) = true := decide_eq_true c39
         clear c39
         by_cases c40 : x7_2 < (t109.length : Int)
         ·
          rw [if_pos c40] at H
          have c40b0 : decide (x7_2 < (t109.length : Int)) = true := decide_eq_true c40
          clear c40
          have HH_ := Aside0.mk H
          clear H
          have hnb41 := NB108_124.out
          have hnc41 := NB124_108.out
          have hcz42_0 : wr.cell? ⟨gb108, 0, none⟩ = some (.int .i64 t101) := (blk_cell BK108.out 0).trans rfl
          have hcz42_1 : wr.cell? ⟨gb108, 1, none⟩ = some (.slice Ao9 t102.length co9) := (blk_cell BK108.out 1).trans rfl
          have hfz42_0 := blk_frozen BK108.out 0
          have hfz42_1 := blk_frozen BK108.out 1
          have hcz43_0 : wr.cell? ⟨gb124, 0, none⟩ = some (.int .i64 t120) := (blk_cell BK124.out 0).trans rfl
          have hcz43_1 : wr.cell? ⟨gb124, 1, none⟩ = some (.slice Ao36 t121.length co36) := (blk_cell BK124.out 1).trans rfl
          have hfz43_0 := blk_frozen BK124.out 0
          have hfz43_1 := blk_frozen BK124.out 1
          go_upto_region 12 with (first | ((with_reducible refine gate_callee (f := 69) rfl ?_); refine goesL_ (some 49) rfl rfl Try.func69 (by kernel_rfl) rfl #[.agg #[.int .i64 t120, .slice Ao36 t121.length co36], .int .i64 x7_2, .slice Ao10 t105.length co10] rfl ul ?_; (with_reducible refine (impl_ManyNear.calls k2 t120 _ _ t121 x7_2 _ _ t105 t125 t126 _ ?side1 ?side2 ?side3 ?side4 A38.out).mono ?_); (case side1 => repeat (first | exact (Kd.R_reads' HO_125001.out).2.2 | (with_reducible refine Kd.C_alloc ?_ _) | (with_reducible refine Kd.C_drewN ?_ _) | (with_reducible refine Kd.C_drew ?_))); (case side2 => exact (Kd.R_reads' HO_125001.out).2.1); (case side3 => repeat (first | exact (Kd.R_reads' HO_4.out).2.2 | (with_reducible refine Kd.C_alloc ?_ _) | (with_reducible refine Kd.C_drewN ?_ _) | (with_reducible refine Kd.C_drew ?_))); (case side4 => exact (Kd.R_reads' HO_4.out).2.1); rintro e w44 ⟨rfl, hb⟩; refine ⟨_, rfl, ?_⟩; have n0_ := Aside0.mk (Kd.R_below (ur HO_4) hb); have n1_ := Aside0.mk (Kd.R_below (ur HO_5) hb); have n2_ := Aside0.mk (Kd.R_below (ur HO_109001) hb); have n3_ := Aside0.mk (Kd.R_below (ur HO_125001) hb); have n4_ := Aside0.mk (blk_below (g := gb108) (o := .cells #[.int .i64 t101, .slice Ao9 t102.length co9] 25 (0, 0)) (ub BK108) hb); have n5_ := Aside0.mk (blk_below (g := gb124) (o := .cells #[.int .i64 t120, .slice Ao36 t121.length co36] 25 (0, 0)) (ub BK124) hb); have n6_ := Aside0.mk (below_step (uB2 HB GE108.out GE124.out) hb); clear HO_4; clear HO_5; clear HO_109001; clear HO_125001; clear BK108; clear BK124; clear HB; have HO_4 := n0_; have HO_5 := n1_; have HO_109001 := n2_; have HO_125001 := n3_; have BK108 := n4_; have BK124 := n5_; have HB := n6_; clear n0_ n1_ n2_ n3_ n4_ n5_ n6_; (try clear hb); (try clear hb2); (try clear hk); (try clear hi); obtain ⟨Ao45, co45, eo45⟩ := Kd.R_slice HO_5.out; subst eo45; have p127 : 0 ≤ (x7_2 : Int) := ua; have q127 : x7_2 < (t109.length : Int) := ua; obtain ⟨ad127, e127, hx127_0⟩ := Kd.at_int (Kd.R_reads' HO_5.out).2.2 x7_2 p127 q127; cases e127; replace p127 := eq_true p127; replace q127 := eq_true q127))
          have H := HH_.out
          clear HH_
          by_cases c46 : t125 = (rd t109 x7_2)
          ·
           rw [if_pos c46] at H
           have c46b0 : (t125 == (rd t109 x7_2)) = true := beq_iff_eq.mpr c46
           have c46b1 : (t125 != (rd t109 x7_2)) = false := bne_eq_false_iff_eq.mpr c46
           clear c46
           have H' := Aside0.mk H
           clear H
           go_wp2
           go_roundg k2
           case measure => have := HJ4.out; have := HK2.out; omega
           case rel => exact ⟨(wrap64 (x7_2 + 1)), ue, H', ⟨by have := HJ4.out; have := HK2.out; omega⟩, ⟨ur HO_4⟩, ⟨ur HO_5⟩, ⟨ur HO_109001⟩, ⟨ur HO_125001⟩, ⟨ub BK108⟩, ⟨ub BK124⟩, ⟨uB2 HB GE108.out GE124.out⟩⟩
          ·
           rw [if_neg c46] at H
           have c46b0 : (t125 == (rd t109 x7_2)) = false := beq_eq_false_iff_ne.mpr c46
           have c46b1 : (t125 != (rd t109 x7_2)) = true := bne_iff_ne.mpr c46
           exact absurd H (by simp)
         ·
          rw [if_neg c40] at H
          exact absurd H (by simp)
        ·
         rw [if_neg c39] at H
         exact absurd H (by simp)
       ·
        rw [if_neg c37] at H
        have c37b0 : decide (x7_2 < t101) = false := decide_eq_false c37
        clear c37
        have HE_ := Aside0.mk (Option.some.inj H)
        clear H
        have hnb47 := NB108_124.out
        have hnc47 := NB124_108.out
        have hcz48_0 : wr.cell? ⟨gb108, 0, none⟩ = some (.int .i64 t101) := (blk_cell BK108.out 0).trans rfl
        have hcz48_1 : wr.cell? ⟨gb108, 1, none⟩ = some (.slice Ao9 t102.length co9) := (blk_cell BK108.out 1).trans rfl
        have hfz48_0 := blk_frozen BK108.out 0
        have hfz48_1 := blk_frozen BK108.out 1
        obtain ⟨Ao49, co49, eo49⟩ := Kd.R_slice HO_5.out
        subst eo49
        go_wp2
        go_ret
        exact ⟨by first | rfl | (simp [errW_none, errW_some] <;> rfl) | (simp [*, errW_none, errW_some] <;> rfl) | exact congrArg (fun b_ => Ending.returned (Value.bool b_)) HE_.out, by repeat (first | (with_reducible first | exact HB.out | apply below_alloc | apply pw_below_drewN | apply below_drew1 | refine below_set ?_ GE108.out | refine below_set ?_ GE124.out) | exact HB.out)⟩

/-- THE ONE PURE STATEMENT of laws_FnManyServe: yours. -/
def laws_FnManyServe.Pure : Prop := ∀ (l0 : List Int), l0.length ≤ maxLen → l0.length * 1 ≤ 140737488351232 → (∀ x ∈ l0, (Lit.int .u8 x).wf = true) → ∃ k, laws_FnManyServe.f k l0 = some true
theorem laws_FnManyServe.walk (P : laws_FnManyServe.Pure) (a0 : Option Addr) (len0 cap0 : Nat) (z0 : List Int) (w : World) (w0 : (a0 = none ∧ len0 = 0 ∧ cap0 = 0 ∧ z0 = []) ∨ ∃ x, a0 = some x ∧ len0 ≤ cap0 ∧ cap0 ≤ maxLen ∧ z0.length = cap0 ∧ (∀ i, i < z0.length → w.cell? (x.add i) = some (.int .u8 (z0.getD i 0))) ∧ ∀ n ∈ z0, (Lit.int .u8 n).wf = true) (y0 : len0 * 1 ≤ 140737488351232) :
  Calls Try.prog 18 #[.slice a0 len0 cap0] w fun e w' => e = .returned (.bool true) ∧ Below w.heap.size w w' := by
 obtain ⟨l0, rfl, hr0, hm0, hw0, hc0⟩ := ReadsInt.ofRowC w0
 obtain ⟨k, h⟩ := P l0 hm0 y0 hw0
 refine (laws_FnManyServe.calls k _ _ l0 w (Kd.C_of_reads (d := (0 : Int)) (h1 := fun _ => rfl) hr0) hc0 h).mono ?_
 rintro e w' ⟨rfl, hd⟩
 exact ⟨rfl, hd⟩

end Go.Proofs.Ytjmpngfgfddpaaa.P
