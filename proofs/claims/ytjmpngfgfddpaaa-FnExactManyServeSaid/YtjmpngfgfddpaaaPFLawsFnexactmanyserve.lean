-- written for this claim by a program (wip/gen/myprint.py over the print tool). Not trusted: Lean checks it.
import Derived.Test.YtjmpngfgfddpaaaPx0
import Derived.Test.YtjmpngfgfddpaaaGLaws
import Derived.Test.YtjmpngfgfddpaaaGMarks
import Derived.Test.YtjmpngfgfddpaaaPFImplManyserve
import Derived.Test.YtjmpngfgfddpaaaPFSpecManyserve
namespace Go.Proofs.Ytjmpngfgfddpaaa.P
open Go.RowKit Go.Proofs.YtjmpngfgfddpaaaV.PrintWords Go.Proofs.YtjmpngfgfddpaaaV.PrintLast
set_option linter.unusedVariables false
set_option linter.unusedSimpArgs false

/-! ### laws_FnExactManyServe: function 24 -/
def laws_FnExactManyServe.j0 : Nat → List Int → List Int → List Int → Bool → Int → List (S120) → Option (Bool)
 | 0, _, _, _, _, _, _ => none
 | k + 1, x1, x6, x9, x61, x102000, x102001 => if x61 = true then (some false) else ((laws_markIntS.f k x9 1).bind fun bt139 => ((laws_heldIntS.f k bt139.2 1).bind fun t141 => (if t141 < 0 then (some false) else (if t141 = bt139.1 then ((laws_toNet.f k x102000 x102001).bind fun bt142 => ((laws_toIntS.f k x1).bind fun t146 => ((impl_ManyServe.f k bt142.1 bt142.2 t146).bind fun t149 => ((laws_eqIntS.f k t149 x6).bind fun t152 => (if t152 = true then ((laws_heldIntS.f k bt139.2 1).bind fun t153 => (if t153 < 0 then (some false) else (if t153 = bt139.1 then (some true) else (some false)))) else (some false)))))) else (some false)))))
def laws_FnExactManyServe.f (k : Nat) (a0_0 : Int) (l0_1 : List (S120)) (l1 : List Int) : Option (Bool) := if (l1.length : Int) > 1048576 then (some true) else ((laws_szNet.f a0_0 l0_1 1048576).bind fun t102 => (if t102 < 0 then (some true) else ((laws_toNet.f k a0_0 l0_1).bind fun bt103 => ((laws_toIntS.f k l1).bind fun t107 => ((spec_ManyServe.f k bt103.1 bt103.2 t107).bind fun t110 => ((laws_toNet.f k a0_0 l0_1).bind fun bt113 => ((laws_toIntS.f k l1).bind fun t118 => ((impl_ManyServe.f k bt113.1 bt113.2 t118).bind fun t121 => ((laws_eqIntS.f k t121 t110).bind fun t124 => (if t124 = true then ((laws_toNet.f k a0_0 l0_1).bind fun bt125 => ((laws_eqNet.f k bt113.1 bt113.2 bt125.1 bt125.2).bind fun t129 => (if t129 = true then ((laws_toIntS.f k l1).bind fun t130 => ((laws_eqIntS.f k t118 t130).bind fun t133 => (if t133 = true then ((laws_markNet.f k bt113.1 bt113.2 1).bind fun bt134 => ((laws_markIntS.f k t118 bt134.1).bind fun bt136 => (if bt136.1 < 0 then (laws_FnExactManyServe.j0 k l1 t110 t121 true a0_0 l0_1) else ((laws_eqIntS.f k t121 t110).bind fun t138 => (laws_FnExactManyServe.j0 k l1 t110 t121 (!t138) a0_0 l0_1))))) else (some false)))) else (some false)))) else (some false)))))))))))
theorem laws_FnExactManyServe.mono_l : ∀ k, (∀ y0 y1 y2 y3 y4 y5, LeO (laws_FnExactManyServe.j0 k y0 y1 y2 y3 y4 y5) (laws_FnExactManyServe.j0 (k + 1) y0 y1 y2 y3 y4 y5))
 | 0 => fun _ _ _ _ _ _ r h => by simp [laws_FnExactManyServe.j0] at h
 | k + 1 => by
  have ih0 := laws_FnExactManyServe.mono_l k
  ·
   intro y0 y1 y2 y3 y4 y5
   unfold laws_FnExactManyServe.j0
   repeat' first
   | (with_reducible exact ih0 _ _ _ _ _ _)
   | (with_reducible exact impl_ManyServe.mono _ _ _ _)
   | (with_reducible exact laws_eqIntS.mono _ _ _)
   | (with_reducible exact laws_eqNet.mono _ _ _ _ _)
   | (with_reducible exact laws_heldIntS.mono _ _ _)
   | (with_reducible exact laws_markIntS.mono _ _ _)
   | (with_reducible exact laws_markNet.mono _ _ _ _)
   | (with_reducible exact laws_toIntS.mono _ _)
   | (with_reducible exact laws_toNet.mono _ _ _)
   | (with_reducible exact spec_ManyServe.mono _ _ _ _)
   | (with_reducible exact LeO.refl _)
   | (with_reducible exact LeO.none _)
   | (with_reducible refine LeO.ite ?_ ?_)
   | (with_reducible refine LeO.bind ?_ (fun _ => ?_))
   | exact ih0 _ _ _ _ _ _
   | exact impl_ManyServe.mono _ _ _ _
   | exact laws_eqIntS.mono _ _ _
   | exact laws_eqNet.mono _ _ _ _ _
   | exact laws_heldIntS.mono _ _ _
   | exact laws_markIntS.mono _ _ _
   | exact laws_markNet.mono _ _ _ _
   | exact laws_toIntS.mono _ _
   | exact laws_toNet.mono _ _ _
   | exact spec_ManyServe.mono _ _ _ _
   | exact LeO.none _
   | refine LeO.ite ?_ ?_
   | refine LeO.bind ?_ (fun _ => ?_)
theorem laws_FnExactManyServe.mono : ∀ a0 a1 a2 k, LeO (laws_FnExactManyServe.f k a0 a1 a2) (laws_FnExactManyServe.f (k + 1) a0 a1 a2) := by
 intro a0 a1 a2 k
 have ih0 := laws_FnExactManyServe.mono_l k
 unfold laws_FnExactManyServe.f
 repeat' first
   | (with_reducible exact ih0 _ _ _ _ _ _)
   | (with_reducible exact impl_ManyServe.mono _ _ _ _)
   | (with_reducible exact laws_eqIntS.mono _ _ _)
   | (with_reducible exact laws_eqNet.mono _ _ _ _ _)
   | (with_reducible exact laws_heldIntS.mono _ _ _)
   | (with_reducible exact laws_markIntS.mono _ _ _)
   | (with_reducible exact laws_markNet.mono _ _ _ _)
   | (with_reducible exact laws_toIntS.mono _ _)
   | (with_reducible exact laws_toNet.mono _ _ _)
   | (with_reducible exact spec_ManyServe.mono _ _ _ _)
   | (with_reducible exact LeO.refl _)
   | (with_reducible exact LeO.none _)
   | (with_reducible refine LeO.ite ?_ ?_)
   | (with_reducible refine LeO.bind ?_ (fun _ => ?_))
   | exact ih0 _ _ _ _ _ _
   | exact impl_ManyServe.mono _ _ _ _
   | exact laws_eqIntS.mono _ _ _
   | exact laws_eqNet.mono _ _ _ _ _
   | exact laws_heldIntS.mono _ _ _
   | exact laws_markIntS.mono _ _ _
   | exact laws_markNet.mono _ _ _ _
   | exact laws_toIntS.mono _ _
   | exact laws_toNet.mono _ _ _
   | exact spec_ManyServe.mono _ _ _ _
   | exact LeO.none _
   | refine LeO.ite ?_ ?_
   | refine LeO.bind ?_ (fun _ => ?_)
set_option maxHeartbeats 8000000 in
set_option maxRecDepth 100000 in
theorem laws_FnExactManyServe.calls (k : Nat) (a0_0 : Int) (A0_1 : Option Addr) (c0_1 : Nat) (l0_1 : List (S120)) (A1 : Option Addr) (c1 : Nat) (l1 : List Int) (w : World) (hr0_1 : Kd.C k120 w A0_1 l0_1.length l0_1) (hc0_1 : l0_1.length ≤ c0_1) (hr1 : Kd.C (Kd.int .i64) w A1 l1.length l1) (hc1 : l1.length ≤ c1) (h : laws_FnExactManyServe.f k a0_0 l0_1 l1 = some true) :
  Calls Try.prog 24 #[.agg #[.int .i64 a0_0, .slice A0_1 l0_1.length c0_1], .slice A1 l1.length c1] w fun e w' => e = .returned (.bool true) ∧ Below w.heap.size w w' := by
 have hu44 := Try.underlying44
 have hu25 := Try.underlying25
 have HR0_1 := Aside0.mk hr0_1
 have HC0_1 := Aside0.mk hc0_1
 clear hr0_1 hc0_1
 have HR1 := Aside0.mk hr1
 have HC1 := Aside0.mk hc1
 clear hr1 hc1
 have HB := Aside0.mk (Below.refl w.heap.size w)
 have H : (if (l1.length : Int) > 1048576 then (some true) else ((laws_szNet.f a0_0 l0_1 1048576).bind fun t102 => (if t102 < 0 then (some true) else ((laws_toNet.f k a0_0 l0_1).bind fun bt103 => ((laws_toIntS.f k l1).bind fun t107 => ((spec_ManyServe.f k bt103.1 bt103.2 t107).bind fun t110 => ((laws_toNet.f k a0_0 l0_1).bind fun bt113 => ((laws_toIntS.f k l1).bind fun t118 => ((impl_ManyServe.f k bt113.1 bt113.2 t118).bind fun t121 => ((laws_eqIntS.f k t121 t110).bind fun t124 => (if t124 = true then ((laws_toNet.f k a0_0 l0_1).bind fun bt125 => ((laws_eqNet.f k bt113.1 bt113.2 bt125.1 bt125.2).bind fun t129 => (if t129 = true then ((laws_toIntS.f k l1).bind fun t130 => ((laws_eqIntS.f k t118 t130).bind fun t133 => (if t133 = true then ((laws_markNet.f k bt113.1 bt113.2 1).bind fun bt134 => ((laws_markIntS.f k t118 bt134.1).bind fun bt136 => (if bt136.1 < 0 then (laws_FnExactManyServe.j0 k l1 t110 t121 true a0_0 l0_1) else ((laws_eqIntS.f k t121 t110).bind fun t138 => (laws_FnExactManyServe.j0 k l1 t110 t121 (!t138) a0_0 l0_1))))) else (some false)))) else (some false)))) else (some false)))))))))))) = some true := h
 clear h
 by_cases c3 : (l1.length : Int) > 1048576
 ·
  rw [if_pos c3] at H
  have c3b0 : decide (1048576 < (l1.length : Int)) = true := decide_eq_true c3
  have c3b1 : decide (1048576 < l1.length) = true := decide_eq_true (by omega)
  clear c3
  clear H
  go_enter Try.func24, Try.ntmps24
  go_wp2_with (first | ((with_reducible refine gate_dst (N := 2) rfl ?_); refine box_event ?hg (N := 2) ?hd (cs := #[.int .i64 a0_0, .slice A0_1 l0_1.length c0_1]) (t := 44) ?hr ?_; (case hd => rfl); (case hg => rfl); (case hr => first | (go_simp; done) | (go_simp; rfl)); intro gb101 hg w4 hbox hb; have n0_ := Aside0.mk (below_step (by repeat (first | (with_reducible first | exact HB.out | apply below_alloc | apply pw_below_drewN | apply below_drew1) | exact HB.out)) hb); have n1_ := Aside0.mk (hbox); have n2_ := Aside0.mk ((by rw [hg]; exact (below_size (by repeat (first | (with_reducible first | exact HB.out | apply below_alloc | apply pw_below_drewN | apply below_drew1) | exact HB.out))) : w.heap.size ≤ gb101)); have n3_ := Aside0.mk ((by rw [hg]; exact (below_size (by repeat (first | (with_reducible first | exact HB.out | apply below_alloc | apply pw_below_drewN | apply below_drew1) | exact HB.out))) : w.heap.size ≤ gb101)); clear HB; have HB := n0_; have BK101 := n1_; have GW101 := n2_; have GE101 := n3_; clear n0_ n1_ n2_ n3_; clear hb hbox hg))
  go_ret
  exact ⟨by first | rfl | (simp [errW_none, errW_some] <;> rfl) | (simp [*, errW_none, errW_some] <;> rfl) | exact congrArg (fun b_ => Ending.returned (Value.bool b_)) HE_.out, by repeat (first | (with_reducible first | exact HB.out | apply below_alloc | apply pw_below_drewN | apply below_drew1 | refine below_set ?_ GE101.out) | exact HB.out)⟩
 ·
  rw [if_neg c3] at H
  have c3b0 : decide (1048576 < (l1.length : Int)) = false := decide_eq_false c3
  have c3b1 : decide (1048576 < l1.length) = false := decide_eq_false (by omega)
  clear c3
  replace H := Option.bind_eq_some_iff.mp H
  obtain ⟨t102, A50, H⟩ := H
  replace H : (if t102 < 0 then (some true) else ((laws_toNet.f k a0_0 l0_1).bind fun bt103 => ((laws_toIntS.f k l1).bind fun t107 => ((spec_ManyServe.f k bt103.1 bt103.2 t107).bind fun t110 => ((laws_toNet.f k a0_0 l0_1).bind fun bt113 => ((laws_toIntS.f k l1).bind fun t118 => ((impl_ManyServe.f k bt113.1 bt113.2 t118).bind fun t121 => ((laws_eqIntS.f k t121 t110).bind fun t124 => (if t124 = true then ((laws_toNet.f k a0_0 l0_1).bind fun bt125 => ((laws_eqNet.f k bt113.1 bt113.2 bt125.1 bt125.2).bind fun t129 => (if t129 = true then ((laws_toIntS.f k l1).bind fun t130 => ((laws_eqIntS.f k t118 t130).bind fun t133 => (if t133 = true then ((laws_markNet.f k bt113.1 bt113.2 1).bind fun bt134 => ((laws_markIntS.f k t118 bt134.1).bind fun bt136 => (if bt136.1 < 0 then (laws_FnExactManyServe.j0 k l1 t110 t121 true a0_0 l0_1) else ((laws_eqIntS.f k t121 t110).bind fun t138 => (laws_FnExactManyServe.j0 k l1 t110 t121 (!t138) a0_0 l0_1))))) else (some false)))) else (some false)))) else (some false)))))))))) = some true := H
  have A5 := Aside0.mk A50
  clear A50
  by_cases c6 : t102 < 0
  ·
   rw [if_pos c6] at H
   have c6b0 : decide (t102 < 0) = true := decide_eq_true c6
   clear c6
   clear H
   go_enter Try.func24, Try.ntmps24
   go_wp2_with (first | ((with_reducible refine gate_dst (N := 2) rfl ?_); refine box_event ?hg (N := 2) ?hd (cs := #[.int .i64 a0_0, .slice A0_1 l0_1.length c0_1]) (t := 44) ?hr ?_; (case hd => rfl); (case hg => rfl); (case hr => first | (go_simp; done) | (go_simp; rfl)); intro gb101 hg w7 hbox hb; have n0_ := Aside0.mk (below_step (by repeat (first | (with_reducible first | exact HB.out | apply below_alloc | apply pw_below_drewN | apply below_drew1) | exact HB.out)) hb); have n1_ := Aside0.mk (hbox); have n2_ := Aside0.mk ((by rw [hg]; exact (below_size (by repeat (first | (with_reducible first | exact HB.out | apply below_alloc | apply pw_below_drewN | apply below_drew1) | exact HB.out))) : w.heap.size ≤ gb101)); have n3_ := Aside0.mk ((by rw [hg]; exact (below_size (by repeat (first | (with_reducible first | exact HB.out | apply below_alloc | apply pw_below_drewN | apply below_drew1) | exact HB.out))) : w.heap.size ≤ gb101)); clear HB; have HB := n0_; have BK101 := n1_; have GW101 := n2_; have GE101 := n3_; clear n0_ n1_ n2_ n3_; clear hb hbox hg; have hcz8_0 : w7.cell? ⟨gb101, 0, none⟩ = some (.int .i64 a0_0) := (blk_cell BK101.out 0).trans rfl; have hcz8_1 : w7.cell? ⟨gb101, 1, none⟩ = some (.slice A0_1 l0_1.length c0_1) := (blk_cell BK101.out 1).trans rfl; have hfz8_0 := blk_frozen BK101.out 0; have hfz8_1 := blk_frozen BK101.out 1) | ((with_reducible refine gate_callee (f := 46) rfl ?_); refine goesL_ (some 19) rfl rfl Try.func46 (by kernel_rfl) rfl #[.agg #[.int .i64 a0_0, .slice A0_1 l0_1.length c0_1], .int .i64 1048576] rfl (by (try simp only [List.map_toArray, List.map_cons, List.map_nil]); first | done | rfl | (simp only [List.length_drop, List.length_take]; rfl)) ?_; (with_reducible refine (laws_szNet.calls a0_0 _ _ l0_1 1048576 t102 _ ?side1 ?side2 A5.out).mono ?_); (case side1 => repeat (first | exact (Kd.C_below HR0_1.out HB.out) | (with_reducible refine Kd.C_alloc ?_ _) | (with_reducible refine Kd.C_drewN ?_ _) | (with_reducible refine Kd.C_drew ?_))); (case side2 => exact HC0_1.out); rintro e w9 ⟨rfl, hb⟩; refine ⟨_, rfl, ?_⟩; have n0_ := Aside0.mk (blk_below (g := gb101) (o := .cells #[.int .i64 a0_0, .slice A0_1 l0_1.length c0_1] 44 (0, 0)) (by (with_reducible repeat (first | refine blk_drewN ?_ _ | refine blk_drew ?_ | refine blk_alloc ?_ _)); exact BK101.out) hb); have n1_ := Aside0.mk (below_step (by repeat (first | (with_reducible first | exact HB.out | apply below_alloc | apply pw_below_drewN | apply below_drew1 | refine below_set ?_ GE101.out) | exact HB.out)) hb); clear BK101; clear HB; have BK101 := n0_; have HB := n1_; clear n0_ n1_; (try clear hb); (try clear hb2); (try clear hk); (try clear hi)))
   go_ret
   exact ⟨by first | rfl | (simp [errW_none, errW_some] <;> rfl) | (simp [*, errW_none, errW_some] <;> rfl) | exact congrArg (fun b_ => Ending.returned (Value.bool b_)) HE_.out, by repeat (first | (with_reducible first | exact HB.out | apply below_alloc | apply pw_below_drewN | apply below_drew1 | refine below_set ?_ GE101.out) | exact HB.out)⟩
  ·
   rw [if_neg c6] at H
   have c6b0 : decide (t102 < 0) = false := decide_eq_false c6
   clear c6
   replace H := Option.bind_eq_some_iff.mp H
   obtain ⟨⟨t103, t104⟩, A100, H⟩ := H
   replace H : ((laws_toIntS.f k l1).bind fun t107 => ((spec_ManyServe.f k t103 t104 t107).bind fun t110 => ((laws_toNet.f k a0_0 l0_1).bind fun bt113 => ((laws_toIntS.f k l1).bind fun t118 => ((impl_ManyServe.f k bt113.1 bt113.2 t118).bind fun t121 => ((laws_eqIntS.f k t121 t110).bind fun t124 => (if t124 = true then ((laws_toNet.f k a0_0 l0_1).bind fun bt125 => ((laws_eqNet.f k bt113.1 bt113.2 bt125.1 bt125.2).bind fun t129 => (if t129 = true then ((laws_toIntS.f k l1).bind fun t130 => ((laws_eqIntS.f k t118 t130).bind fun t133 => (if t133 = true then ((laws_markNet.f k bt113.1 bt113.2 1).bind fun bt134 => ((laws_markIntS.f k t118 bt134.1).bind fun bt136 => (if bt136.1 < 0 then (laws_FnExactManyServe.j0 k l1 t110 t121 true a0_0 l0_1) else ((laws_eqIntS.f k t121 t110).bind fun t138 => (laws_FnExactManyServe.j0 k l1 t110 t121 (!t138) a0_0 l0_1))))) else (some false)))) else (some false)))) else (some false)))))))) = some true := H
   have A10 := Aside0.mk A100
   clear A100
   replace H := Option.bind_eq_some_iff.mp H
   obtain ⟨t107, A110, H⟩ := H
   replace H : ((spec_ManyServe.f k t103 t104 t107).bind fun t110 => ((laws_toNet.f k a0_0 l0_1).bind fun bt113 => ((laws_toIntS.f k l1).bind fun t118 => ((impl_ManyServe.f k bt113.1 bt113.2 t118).bind fun t121 => ((laws_eqIntS.f k t121 t110).bind fun t124 => (if t124 = true then ((laws_toNet.f k a0_0 l0_1).bind fun bt125 => ((laws_eqNet.f k bt113.1 bt113.2 bt125.1 bt125.2).bind fun t129 => (if t129 = true then ((laws_toIntS.f k l1).bind fun t130 => ((laws_eqIntS.f k t118 t130).bind fun t133 => (if t133 = true then ((laws_markNet.f k bt113.1 bt113.2 1).bind fun bt134 => ((laws_markIntS.f k t118 bt134.1).bind fun bt136 => (if bt136.1 < 0 then (laws_FnExactManyServe.j0 k l1 t110 t121 true a0_0 l0_1) else ((laws_eqIntS.f k t121 t110).bind fun t138 => (laws_FnExactManyServe.j0 k l1 t110 t121 (!t138) a0_0 l0_1))))) else (some false)))) else (some false)))) else (some false))))))) = some true := H
   have A11 := Aside0.mk A110
   clear A110
   replace H := Option.bind_eq_some_iff.mp H
   obtain ⟨t110, A120, H⟩ := H
   replace H : ((laws_toNet.f k a0_0 l0_1).bind fun bt113 => ((laws_toIntS.f k l1).bind fun t118 => ((impl_ManyServe.f k bt113.1 bt113.2 t118).bind fun t121 => ((laws_eqIntS.f k t121 t110).bind fun t124 => (if t124 = true then ((laws_toNet.f k a0_0 l0_1).bind fun bt125 => ((laws_eqNet.f k bt113.1 bt113.2 bt125.1 bt125.2).bind fun t129 => (if t129 = true then ((laws_toIntS.f k l1).bind fun t130 => ((laws_eqIntS.f k t118 t130).bind fun t133 => (if t133 = true then ((laws_markNet.f k bt113.1 bt113.2 1).bind fun bt134 => ((laws_markIntS.f k t118 bt134.1).bind fun bt136 => (if bt136.1 < 0 then (laws_FnExactManyServe.j0 k l1 t110 t121 true a0_0 l0_1) else ((laws_eqIntS.f k t121 t110).bind fun t138 => (laws_FnExactManyServe.j0 k l1 t110 t121 (!t138) a0_0 l0_1))))) else (some false)))) else (some false)))) else (some false)))))) = some true := H
   have A12 := Aside0.mk A120
   clear A120
   replace H := Option.bind_eq_some_iff.mp H
   obtain ⟨⟨t113, t114⟩, A130, H⟩ := H
   replace H : ((laws_toIntS.f k l1).bind fun t118 => ((impl_ManyServe.f k t113 t114 t118).bind fun t121 => ((laws_eqIntS.f k t121 t110).bind fun t124 => (if t124 = true then ((laws_toNet.f k a0_0 l0_1).bind fun bt125 => ((laws_eqNet.f k t113 t114 bt125.1 bt125.2).bind fun t129 => (if t129 = true then ((laws_toIntS.f k l1).bind fun t130 => ((laws_eqIntS.f k t118 t130).bind fun t133 => (if t133 = true then ((laws_markNet.f k t113 t114 1).bind fun bt134 => ((laws_markIntS.f k t118 bt134.1).bind fun bt136 => (if bt136.1 < 0 then (laws_FnExactManyServe.j0 k l1 t110 t121 true a0_0 l0_1) else ((laws_eqIntS.f k t121 t110).bind fun t138 => (laws_FnExactManyServe.j0 k l1 t110 t121 (!t138) a0_0 l0_1))))) else (some false)))) else (some false)))) else (some false))))) = some true := H
   have A13 := Aside0.mk A130
   clear A130
   replace H := Option.bind_eq_some_iff.mp H
   obtain ⟨t118, A140, H⟩ := H
   replace H : ((impl_ManyServe.f k t113 t114 t118).bind fun t121 => ((laws_eqIntS.f k t121 t110).bind fun t124 => (if t124 = true then ((laws_toNet.f k a0_0 l0_1).bind fun bt125 => ((laws_eqNet.f k t113 t114 bt125.1 bt125.2).bind fun t129 => (if t129 = true then ((laws_toIntS.f k l1).bind fun t130 => ((laws_eqIntS.f k t118 t130).bind fun t133 => (if t133 = true then ((laws_markNet.f k t113 t114 1).bind fun bt134 => ((laws_markIntS.f k t118 bt134.1).bind fun bt136 => (if bt136.1 < 0 then (laws_FnExactManyServe.j0 k l1 t110 t121 true a0_0 l0_1) else ((laws_eqIntS.f k t121 t110).bind fun t138 => (laws_FnExactManyServe.j0 k l1 t110 t121 (!t138) a0_0 l0_1))))) else (some false)))) else (some false)))) else (some false)))) = some true := H
   have A14 := Aside0.mk A140
   clear A140
   replace H := Option.bind_eq_some_iff.mp H
   obtain ⟨t121, A150, H⟩ := H
   replace H : ((laws_eqIntS.f k t121 t110).bind fun t124 => (if t124 = true then ((laws_toNet.f k a0_0 l0_1).bind fun bt125 => ((laws_eqNet.f k t113 t114 bt125.1 bt125.2).bind fun t129 => (if t129 = true then ((laws_toIntS.f k l1).bind fun t130 => ((laws_eqIntS.f k t118 t130).bind fun t133 => (if t133 = true then ((laws_markNet.f k t113 t114 1).bind fun bt134 => ((laws_markIntS.f k t118 bt134.1).bind fun bt136 => (if bt136.1 < 0 then (laws_FnExactManyServe.j0 k l1 t110 t121 true a0_0 l0_1) else ((laws_eqIntS.f k t121 t110).bind fun t138 => (laws_FnExactManyServe.j0 k l1 t110 t121 (!t138) a0_0 l0_1))))) else (some false)))) else (some false)))) else (some false))) = some true := H
   have A15 := Aside0.mk A150
   clear A150
   replace H := Option.bind_eq_some_iff.mp H
   obtain ⟨t124, A160, H⟩ := H
   replace H : (if t124 = true then ((laws_toNet.f k a0_0 l0_1).bind fun bt125 => ((laws_eqNet.f k t113 t114 bt125.1 bt125.2).bind fun t129 => (if t129 = true then ((laws_toIntS.f k l1).bind fun t130 => ((laws_eqIntS.f k t118 t130).bind fun t133 => (if t133 = true then ((laws_markNet.f k t113 t114 1).bind fun bt134 => ((laws_markIntS.f k t118 bt134.1).bind fun bt136 => (if bt136.1 < 0 then (laws_FnExactManyServe.j0 k l1 t110 t121 true a0_0 l0_1) else ((laws_eqIntS.f k t121 t110).bind fun t138 => (laws_FnExactManyServe.j0 k l1 t110 t121 (!t138) a0_0 l0_1))))) else (some false)))) else (some false)))) else (some false)) = some true := H
   have A16 := Aside0.mk A160
   clear A160
   by_cases c17 : t124 = true
   ·
    subst c17
    have H1 : ((laws_toNet.f k a0_0 l0_1).bind fun bt125 => ((laws_eqNet.f k t113 t114 bt125.1 bt125.2).bind fun t129 => (if t129 = true then ((laws_toIntS.f k l1).bind fun t130 => ((laws_eqIntS.f k t118 t130).bind fun t133 => (if t133 = true then ((laws_markNet.f k t113 t114 1).bind fun bt134 => ((laws_markIntS.f k t118 bt134.1).bind fun bt136 => (if bt136.1 < 0 then (laws_FnExactManyServe.j0 k l1 t110 t121 true a0_0 l0_1) else ((laws_eqIntS.f k t121 t110).bind fun t138 => (laws_FnExactManyServe.j0 k l1 t110 t121 (!t138) a0_0 l0_1))))) else (some false)))) else (some false)))) = some true := by rw [if_pos rfl] at H; exact H
    clear H
    have H := H1
    clear H1
    replace H := Option.bind_eq_some_iff.mp H
    obtain ⟨⟨t125, t126⟩, A180, H⟩ := H
    replace H : ((laws_eqNet.f k t113 t114 t125 t126).bind fun t129 => (if t129 = true then ((laws_toIntS.f k l1).bind fun t130 => ((laws_eqIntS.f k t118 t130).bind fun t133 => (if t133 = true then ((laws_markNet.f k t113 t114 1).bind fun bt134 => ((laws_markIntS.f k t118 bt134.1).bind fun bt136 => (if bt136.1 < 0 then (laws_FnExactManyServe.j0 k l1 t110 t121 true a0_0 l0_1) else ((laws_eqIntS.f k t121 t110).bind fun t138 => (laws_FnExactManyServe.j0 k l1 t110 t121 (!t138) a0_0 l0_1))))) else (some false)))) else (some false))) = some true := H
    have A18 := Aside0.mk A180
    clear A180
    replace H := Option.bind_eq_some_iff.mp H
    obtain ⟨t129, A190, H⟩ := H
    replace H : (if t129 = true then ((laws_toIntS.f k l1).bind fun t130 => ((laws_eqIntS.f k t118 t130).bind fun t133 => (if t133 = true then ((laws_markNet.f k t113 t114 1).bind fun bt134 => ((laws_markIntS.f k t118 bt134.1).bind fun bt136 => (if bt136.1 < 0 then (laws_FnExactManyServe.j0 k l1 t110 t121 true a0_0 l0_1) else ((laws_eqIntS.f k t121 t110).bind fun t138 => (laws_FnExactManyServe.j0 k l1 t110 t121 (!t138) a0_0 l0_1))))) else (some false)))) else (some false)) = some true := H
    have A19 := Aside0.mk A190
    clear A190
    by_cases c20 : t129 = true
    ·
     subst c20
     have H1 : ((laws_toIntS.f k l1).bind fun t130 => ((laws_eqIntS.f k t118 t130).bind fun t133 => (if t133 = true then ((laws_markNet.f k t113 t114 1).bind fun bt134 => ((laws_markIntS.f k t118 bt134.1).bind fun bt136 => (if bt136.1 < 0 then (laws_FnExactManyServe.j0 k l1 t110 t121 true a0_0 l0_1) else ((laws_eqIntS.f k t121 t110).bind fun t138 => (laws_FnExactManyServe.j0 k l1 t110 t121 (!t138) a0_0 l0_1))))) else (some false)))) = some true := by rw [if_pos rfl] at H; exact H
     clear H
     have H := H1
     clear H1
     replace H := Option.bind_eq_some_iff.mp H
     obtain ⟨t130, A210, H⟩ := H
     replace H : ((laws_eqIntS.f k t118 t130).bind fun t133 => (if t133 = true then ((laws_markNet.f k t113 t114 1).bind fun bt134 => ((laws_markIntS.f k t118 bt134.1).bind fun bt136 => (if bt136.1 < 0 then (laws_FnExactManyServe.j0 k l1 t110 t121 true a0_0 l0_1) else ((laws_eqIntS.f k t121 t110).bind fun t138 => (laws_FnExactManyServe.j0 k l1 t110 t121 (!t138) a0_0 l0_1))))) else (some false))) = some true := H
     have A21 := Aside0.mk A210
     clear A210
     replace H := Option.bind_eq_some_iff.mp H
     obtain ⟨t133, A220, H⟩ := H
     replace H : (if t133 = true then ((laws_markNet.f k t113 t114 1).bind fun bt134 => ((laws_markIntS.f k t118 bt134.1).bind fun bt136 => (if bt136.1 < 0 then (laws_FnExactManyServe.j0 k l1 t110 t121 true a0_0 l0_1) else ((laws_eqIntS.f k t121 t110).bind fun t138 => (laws_FnExactManyServe.j0 k l1 t110 t121 (!t138) a0_0 l0_1))))) else (some false)) = some true := H
     have A22 := Aside0.mk A220
     clear A220
     by_cases c23 : t133 = true
     ·
      subst c23
      have H1 : ((laws_markNet.f k t113 t114 1).bind fun bt134 => ((laws_markIntS.f k t118 bt134.1).bind fun bt136 => (if bt136.1 < 0 then (laws_FnExactManyServe.j0 k l1 t110 t121 true a0_0 l0_1) else ((laws_eqIntS.f k t121 t110).bind fun t138 => (laws_FnExactManyServe.j0 k l1 t110 t121 (!t138) a0_0 l0_1))))) = some true := by rw [if_pos rfl] at H; exact H
      clear H
      have H := H1
      clear H1
      replace H := Option.bind_eq_some_iff.mp H
      obtain ⟨⟨t134, t135⟩, A240, H⟩ := H
      replace H : ((laws_markIntS.f k t118 t134).bind fun bt136 => (if bt136.1 < 0 then (laws_FnExactManyServe.j0 k l1 t110 t121 true a0_0 l0_1) else ((laws_eqIntS.f k t121 t110).bind fun t138 => (laws_FnExactManyServe.j0 k l1 t110 t121 (!t138) a0_0 l0_1)))) = some true := H
      have A24 := Aside0.mk A240
      clear A240
      replace H := Option.bind_eq_some_iff.mp H
      obtain ⟨⟨t136, t137⟩, A250, H⟩ := H
      replace H : (if t136 < 0 then (laws_FnExactManyServe.j0 k l1 t110 t121 true a0_0 l0_1) else ((laws_eqIntS.f k t121 t110).bind fun t138 => (laws_FnExactManyServe.j0 k l1 t110 t121 (!t138) a0_0 l0_1))) = some true := H
      have A25 := Aside0.mk A250
      clear A250
      have HC26 := Aside0.mk H
      clear H
      go_enter Try.func24, Try.ntmps24
      try go_wp2_with (first | ((with_reducible refine gate_dst (N := 2) rfl ?_); refine box_event ?hg (N := 2) ?hd (cs := #[.int .i64 a0_0, .slice A0_1 l0_1.length c0_1]) (t := 44) ?hr ?_; (case hd => rfl); (case hg => rfl); (case hr => first | (go_simp; done) | (go_simp; rfl)); intro gb101 hg w27 hbox hb; have n0_ := Aside0.mk (below_step (by repeat (first | (with_reducible first | exact HB.out | apply below_alloc | apply pw_below_drewN | apply below_drew1) | exact HB.out)) hb); have n1_ := Aside0.mk (hbox); have n2_ := Aside0.mk ((by rw [hg]; exact (below_size (by repeat (first | (with_reducible first | exact HB.out | apply below_alloc | apply pw_below_drewN | apply below_drew1) | exact HB.out))) : w.heap.size ≤ gb101)); have n3_ := Aside0.mk ((by rw [hg]; exact (below_size (by repeat (first | (with_reducible first | exact HB.out | apply below_alloc | apply pw_below_drewN | apply below_drew1) | exact HB.out))) : w.heap.size ≤ gb101)); clear HB; have HB := n0_; have BK101 := n1_; have GW101 := n2_; have GE101 := n3_; clear n0_ n1_ n2_ n3_; clear hb hbox hg; have hcz28_0 : w27.cell? ⟨gb101, 0, none⟩ = some (.int .i64 a0_0) := (blk_cell BK101.out 0).trans rfl; have hcz28_1 : w27.cell? ⟨gb101, 1, none⟩ = some (.slice A0_1 l0_1.length c0_1) := (blk_cell BK101.out 1).trans rfl; have hfz28_0 := blk_frozen BK101.out 0; have hfz28_1 := blk_frozen BK101.out 1) | ((with_reducible refine gate_callee (f := 46) rfl ?_); refine goesL_ (some 19) rfl rfl Try.func46 (by kernel_rfl) rfl #[.agg #[.int .i64 a0_0, .slice A0_1 l0_1.length c0_1], .int .i64 1048576] rfl (by (try simp only [List.map_toArray, List.map_cons, List.map_nil]); first | done | rfl | (simp only [List.length_drop, List.length_take]; rfl)) ?_; (with_reducible refine (laws_szNet.calls a0_0 _ _ l0_1 1048576 t102 _ ?side1 ?side2 A5.out).mono ?_); (case side1 => repeat (first | exact (Kd.C_below HR0_1.out HB.out) | (with_reducible refine Kd.C_alloc ?_ _) | (with_reducible refine Kd.C_drewN ?_ _) | (with_reducible refine Kd.C_drew ?_))); (case side2 => exact HC0_1.out); rintro e w29 ⟨rfl, hb⟩; refine ⟨_, rfl, ?_⟩; have n0_ := Aside0.mk (blk_below (g := gb101) (o := .cells #[.int .i64 a0_0, .slice A0_1 l0_1.length c0_1] 44 (0, 0)) (by (with_reducible repeat (first | refine blk_drewN ?_ _ | refine blk_drew ?_ | refine blk_alloc ?_ _)); exact BK101.out) hb); have n1_ := Aside0.mk (below_step (by repeat (first | (with_reducible first | exact HB.out | apply below_alloc | apply pw_below_drewN | apply below_drew1 | refine below_set ?_ GE101.out) | exact HB.out)) hb); clear BK101; clear HB; have BK101 := n0_; have HB := n1_; clear n0_ n1_; (try clear hb); (try clear hb2); (try clear hk); (try clear hi); have hcz30_0 : w29.cell? ⟨gb101, 0, none⟩ = some (.int .i64 a0_0) := (blk_cell BK101.out 0).trans rfl; have hcz30_1 : w29.cell? ⟨gb101, 1, none⟩ = some (.slice A0_1 l0_1.length c0_1) := (blk_cell BK101.out 1).trans rfl; have hfz30_0 := blk_frozen BK101.out 0; have hfz30_1 := blk_frozen BK101.out 1) | ((with_reducible refine gate_callee (f := 47) rfl ?_); refine goesL_ (some 23) rfl rfl Try.func47 (by kernel_rfl) rfl #[.agg #[.int .i64 a0_0, .slice A0_1 l0_1.length c0_1]] rfl (by (try simp only [List.map_toArray, List.map_cons, List.map_nil]); first | done | rfl | (simp only [List.length_drop, List.length_take]; rfl)) ?_; (with_reducible refine (laws_toNet.calls k a0_0 _ _ l0_1 t103 t104 _ ?side1 ?side2 A10.out).mono ?_); (case side1 => repeat (first | exact (Kd.C_below HR0_1.out HB.out) | (with_reducible refine Kd.C_alloc ?_ _) | (with_reducible refine Kd.C_drewN ?_ _) | (with_reducible refine Kd.C_drew ?_))); (case side2 => exact HC0_1.out); rintro e w31 ⟨v105, rfl, ho0, hb⟩; refine ⟨_, rfl, ?_⟩; have n0_ := Aside0.mk (Kd.R_lower ho0 (below_size (by repeat (first | (with_reducible first | exact HB.out | apply below_alloc | apply pw_below_drewN | apply below_drew1 | refine below_set ?_ GE101.out) | exact HB.out)))); have n1_ := Aside0.mk (blk_below (g := gb101) (o := .cells #[.int .i64 a0_0, .slice A0_1 l0_1.length c0_1] 44 (0, 0)) (by (with_reducible repeat (first | refine blk_drewN ?_ _ | refine blk_drew ?_ | refine blk_alloc ?_ _)); exact BK101.out) hb); have n2_ := Aside0.mk (below_step (by repeat (first | (with_reducible first | exact HB.out | apply below_alloc | apply pw_below_drewN | apply below_drew1 | refine below_set ?_ GE101.out) | exact HB.out)) hb); clear BK101; clear HB; have HO106 := n0_; have BK101 := n1_; have HB := n2_; clear n0_ n1_ n2_; (try clear hb); (try clear hb2); (try clear hk); (try clear hi); (try clear ho0)) | ((with_reducible refine gate_callee (f := 53) rfl ?_); refine goesL_ (some 25) rfl rfl Try.func53 (by kernel_rfl) rfl #[.slice A1 l1.length c1] rfl (by (try simp only [List.map_toArray, List.map_cons, List.map_nil]); first | done | rfl | (simp only [List.length_drop, List.length_take]; rfl)) ?_; (with_reducible refine (laws_toIntS.calls k _ _ l1 t107 _ ?side1 ?side2 A11.out).mono ?_); (case side1 => repeat (first | exact (Kd.C_below HR1.out HB.out) | (with_reducible refine Kd.C_alloc ?_ _) | (with_reducible refine Kd.C_drewN ?_ _) | (with_reducible refine Kd.C_drew ?_))); (case side2 => exact HC1.out); rintro e w32 ⟨v108, rfl, ho0, hb⟩; refine ⟨_, rfl, ?_⟩; have n0_ := Aside0.mk (Kd.R_below (by (with_reducible repeat (first | apply Kd.R_alloc | apply Kd.R_drewN | apply Kd.R_drew)); exact HO106.out) hb); have n1_ := Aside0.mk (Kd.R_lower ho0 (below_size (by repeat (first | (with_reducible first | exact HB.out | apply below_alloc | apply pw_below_drewN | apply below_drew1 | refine below_set ?_ GE101.out) | exact HB.out)))); have n2_ := Aside0.mk (blk_below (g := gb101) (o := .cells #[.int .i64 a0_0, .slice A0_1 l0_1.length c0_1] 44 (0, 0)) (by (with_reducible repeat (first | refine blk_drewN ?_ _ | refine blk_drew ?_ | refine blk_alloc ?_ _)); exact BK101.out) hb); have n3_ := Aside0.mk (below_step (by repeat (first | (with_reducible first | exact HB.out | apply below_alloc | apply pw_below_drewN | apply below_drew1 | refine below_set ?_ GE101.out) | exact HB.out)) hb); clear HO106; clear BK101; clear HB; have HO106 := n0_; have HO109 := n1_; have BK101 := n2_; have HB := n3_; clear n0_ n1_ n2_ n3_; (try clear hb); (try clear hb2); (try clear hk); (try clear hi); (try clear ho0); obtain ⟨Ao33, co33, eo33⟩ := Kd.R_slice HO106.out; subst eo33; obtain ⟨Ao34, co34, eo34⟩ := Kd.R_slice HO109.out; subst eo34) | ((with_reducible refine gate_callee (f := 77) rfl ?_); refine goesL_ (some 26) rfl rfl Try.func77 (by kernel_rfl) rfl #[.agg #[.int .i64 t103, .slice Ao33 t104.length co33], .slice Ao34 t107.length co34] rfl (by (try simp only [List.map_toArray, List.map_cons, List.map_nil]); first | done | rfl | (simp only [List.length_drop, List.length_take]; rfl)) ?_; (with_reducible refine (spec_ManyServe.calls k t103 _ _ t104 _ _ t107 t110 _ ?side1 ?side2 ?side3 ?side4 A12.out).mono ?_); (case side1 => repeat (first | exact (Kd.R_reads' HO106.out).2.2 | (with_reducible refine Kd.C_alloc ?_ _) | (with_reducible refine Kd.C_drewN ?_ _) | (with_reducible refine Kd.C_drew ?_))); (case side2 => exact (Kd.R_reads' HO106.out).2.1); (case side3 => repeat (first | exact (Kd.R_reads' HO109.out).2.2 | (with_reducible refine Kd.C_alloc ?_ _) | (with_reducible refine Kd.C_drewN ?_ _) | (with_reducible refine Kd.C_drew ?_))); (case side4 => exact (Kd.R_reads' HO109.out).2.1); rintro e w35 ⟨v111, rfl, ho0, hb⟩; refine ⟨_, rfl, ?_⟩; have n0_ := Aside0.mk (Kd.R_below (by (with_reducible repeat (first | apply Kd.R_alloc | apply Kd.R_drewN | apply Kd.R_drew)); exact HO106.out) hb); have n1_ := Aside0.mk (Kd.R_elder' (by (with_reducible repeat (first | apply Kd.R_alloc | apply Kd.R_drewN | apply Kd.R_drew)); exact HO109.out) (Kd.R_base ho0) hb); have n2_ := Aside0.mk (Kd.R_lower (Kd.R_new' ho0 (Kd.R_lt (by (with_reducible repeat (first | apply Kd.R_alloc | apply Kd.R_drewN | apply Kd.R_drew)); exact HO109.out))) (below_size (by repeat (first | (with_reducible first | exact HB.out | apply below_alloc | apply pw_below_drewN | apply below_drew1 | refine below_set ?_ GE101.out) | exact HB.out)))); have n3_ := Aside0.mk (blk_below (g := gb101) (o := .cells #[.int .i64 a0_0, .slice A0_1 l0_1.length c0_1] 44 (0, 0)) (by (with_reducible repeat (first | refine blk_drewN ?_ _ | refine blk_drew ?_ | refine blk_alloc ?_ _)); exact BK101.out) hb); have n4_ := Aside0.mk (below_step (by repeat (first | (with_reducible first | exact HB.out | apply below_alloc | apply pw_below_drewN | apply below_drew1 | refine below_set ?_ GE101.out) | exact HB.out)) hb); clear HO106; clear HO109; clear BK101; clear HB; have HO106 := n0_; have HO109 := n1_; have HO112 := n2_; have BK101 := n3_; have HB := n4_; clear n0_ n1_ n2_ n3_ n4_; (try clear hb); (try clear hb2); (try clear hk); (try clear hi); (try clear ho0); have hcz36_0 : w35.cell? ⟨gb101, 0, none⟩ = some (.int .i64 a0_0) := (blk_cell BK101.out 0).trans rfl; have hcz36_1 : w35.cell? ⟨gb101, 1, none⟩ = some (.slice A0_1 l0_1.length c0_1) := (blk_cell BK101.out 1).trans rfl; have hfz36_0 := blk_frozen BK101.out 0; have hfz36_1 := blk_frozen BK101.out 1) | ((with_reducible refine gate_callee (f := 47) rfl ?_); refine goesL_ (some 28) rfl rfl Try.func47 (by kernel_rfl) rfl #[.agg #[.int .i64 a0_0, .slice A0_1 l0_1.length c0_1]] rfl (by (try simp only [List.map_toArray, List.map_cons, List.map_nil]); first | done | rfl | (simp only [List.length_drop, List.length_take]; rfl)) ?_; (with_reducible refine (laws_toNet.calls k a0_0 _ _ l0_1 t113 t114 _ ?side1 ?side2 A13.out).mono ?_); (case side1 => repeat (first | exact (Kd.C_below HR0_1.out HB.out) | (with_reducible refine Kd.C_alloc ?_ _) | (with_reducible refine Kd.C_drewN ?_ _) | (with_reducible refine Kd.C_drew ?_))); (case side2 => exact HC0_1.out); rintro e w37 ⟨v115, rfl, ho0, hb⟩; refine ⟨_, rfl, ?_⟩; have n0_ := Aside0.mk (Kd.R_elder' (by (with_reducible repeat (first | apply Kd.R_alloc | apply Kd.R_drewN | apply Kd.R_drew)); exact HO106.out) (Kd.R_base ho0) hb); have n1_ := Aside0.mk (Kd.R_below (by (with_reducible repeat (first | apply Kd.R_alloc | apply Kd.R_drewN | apply Kd.R_drew)); exact HO109.out) hb); have n2_ := Aside0.mk (Kd.R_below (by (with_reducible repeat (first | apply Kd.R_alloc | apply Kd.R_drewN | apply Kd.R_drew)); exact HO112.out) hb); have n3_ := Aside0.mk (Kd.R_lower (Kd.R_new' ho0 (Kd.R_lt (by (with_reducible repeat (first | apply Kd.R_alloc | apply Kd.R_drewN | apply Kd.R_drew)); exact HO106.out))) (below_size (by repeat (first | (with_reducible first | exact HB.out | apply below_alloc | apply pw_below_drewN | apply below_drew1 | refine below_set ?_ GE101.out) | exact HB.out)))); have n4_ := Aside0.mk (blk_below (g := gb101) (o := .cells #[.int .i64 a0_0, .slice A0_1 l0_1.length c0_1] 44 (0, 0)) (by (with_reducible repeat (first | refine blk_drewN ?_ _ | refine blk_drew ?_ | refine blk_alloc ?_ _)); exact BK101.out) hb); have n5_ := Aside0.mk (below_step (by repeat (first | (with_reducible first | exact HB.out | apply below_alloc | apply pw_below_drewN | apply below_drew1 | refine below_set ?_ GE101.out) | exact HB.out)) hb); clear HO106; clear HO109; clear HO112; clear BK101; clear HB; have HO106 := n0_; have HO109 := n1_; have HO112 := n2_; have HO116 := n3_; have BK101 := n4_; have HB := n5_; clear n0_ n1_ n2_ n3_ n4_ n5_; (try clear hb); (try clear hb2); (try clear hk); (try clear hi); (try clear ho0)) | ((with_reducible refine gate_dst (N := 7) rfl ?_); refine box_event ?hg (N := 7) ?hd (cs := #[.int .i64 0, .slice none 0 0]) (t := 25) ?hr ?_; (case hd => rfl); (case hg => rfl); (case hr => first | (go_simp; done) | (go_simp; rfl)); intro gb117 hg w38 hbox hb; have n0_ := Aside0.mk (Kd.R_below (by (with_reducible repeat (first | apply Kd.R_alloc | apply Kd.R_drewN | apply Kd.R_drew)); exact HO106.out) hb); have n1_ := Aside0.mk (Kd.R_below (by (with_reducible repeat (first | apply Kd.R_alloc | apply Kd.R_drewN | apply Kd.R_drew)); exact HO109.out) hb); have n2_ := Aside0.mk (Kd.R_below (by (with_reducible repeat (first | apply Kd.R_alloc | apply Kd.R_drewN | apply Kd.R_drew)); exact HO112.out) hb); have n3_ := Aside0.mk (Kd.R_below (by (with_reducible repeat (first | apply Kd.R_alloc | apply Kd.R_drewN | apply Kd.R_drew)); exact HO116.out) hb); have n4_ := Aside0.mk (blk_below (g := gb101) (o := .cells #[.int .i64 a0_0, .slice A0_1 l0_1.length c0_1] 44 (0, 0)) (by (with_reducible repeat (first | refine blk_drewN ?_ _ | refine blk_drew ?_ | refine blk_alloc ?_ _)); exact BK101.out) hb); have n5_ := Aside0.mk (below_step (by repeat (first | (with_reducible first | exact HB.out | apply below_alloc | apply pw_below_drewN | apply below_drew1 | refine below_set ?_ GE101.out) | exact HB.out)) hb); have n6_ := Aside0.mk (hbox); have n7_ := Aside0.mk ((by rw [hg]; exact (below_size (by repeat (first | (with_reducible first | exact HB.out | apply below_alloc | apply pw_below_drewN | apply below_drew1 | refine below_set ?_ GE101.out) | exact HB.out))) : w.heap.size ≤ gb117)); have n8_ := Aside0.mk ((by rw [hg]; exact (below_size (by repeat (first | (with_reducible first | exact HB.out | apply below_alloc | apply pw_below_drewN | apply below_drew1 | refine below_set ?_ GE101.out) | exact HB.out))) : w.heap.size ≤ gb117)); have n9_ := Aside0.mk ((by rw [hg]; exact Nat.ne_of_lt (blk_lt (g := gb101) (o := .cells #[.int .i64 a0_0, .slice A0_1 l0_1.length c0_1] 44 (0, 0)) (by (with_reducible repeat (first | refine blk_drewN ?_ _ | refine blk_drew ?_ | refine blk_alloc ?_ _)); exact BK101.out)) : gb101 ≠ gb117)); have n10_ := Aside0.mk ((by rw [hg]; exact Nat.ne_of_gt (blk_lt (g := gb101) (o := .cells #[.int .i64 a0_0, .slice A0_1 l0_1.length c0_1] 44 (0, 0)) (by (with_reducible repeat (first | refine blk_drewN ?_ _ | refine blk_drew ?_ | refine blk_alloc ?_ _)); exact BK101.out)) : gb117 ≠ gb101)); clear HO106; clear HO109; clear HO112; clear HO116; clear BK101; clear HB; have HO106 := n0_; have HO109 := n1_; have HO112 := n2_; have HO116 := n3_; have BK101 := n4_; have HB := n5_; have BK117 := n6_; have GW117 := n7_; have GE117 := n8_; have NB101_117 := n9_; have NB117_101 := n10_; clear n0_ n1_ n2_ n3_ n4_ n5_ n6_ n7_ n8_ n9_ n10_; clear hb hbox hg; have hnb39 := NB117_101.out; have hnc39 := NB101_117.out; have hcz40_0 : w38.cell? ⟨gb117, 0, none⟩ = some (.int .i64 0) := (blk_cell BK117.out 0).trans rfl; have hcz40_1 : w38.cell? ⟨gb117, 1, none⟩ = some (.slice none 0 0) := (blk_cell BK117.out 1).trans rfl; have hfz40_0 := blk_frozen BK117.out 0; have hfz40_1 := blk_frozen BK117.out 1; obtain ⟨Ao41, co41, eo41⟩ := Kd.R_slice HO116.out; subst eo41) | ((with_reducible refine gate_callee (f := 53) rfl ?_); refine goesL_ (some 30) rfl rfl Try.func53 (by kernel_rfl) rfl #[.slice A1 l1.length c1] rfl (by (try simp only [List.map_toArray, List.map_cons, List.map_nil]); first | done | rfl | (simp only [List.length_drop, List.length_take]; rfl)) ?_; (with_reducible refine (laws_toIntS.calls k _ _ l1 t118 _ ?side1 ?side2 A14.out).mono ?_); (case side1 => exact Kd.C_below HR1.out (by repeat (first | (with_reducible first | exact HB.out | apply below_alloc | apply pw_below_drewN | apply below_drew1 | refine below_set ?_ GE101.out | refine below_set ?_ GE117.out) | exact HB.out))); (case side2 => exact HC1.out); rintro e w42 ⟨v119, rfl, ho0, hb⟩; refine ⟨_, rfl, ?_⟩; have n0_ := Aside0.mk (Kd.R_below (by (with_reducible repeat (first | apply Kd.R_alloc | apply Kd.R_drewN | apply Kd.R_drew)); exact (Kd.R_mono (Kd.R_far (p := ⟨gb117, 1, none⟩) (Kd.R_far (p := ⟨gb117, 0, none⟩) (Kd.R_types HO106.out BK117.out (by decide)) (fun _ hk => hk.2) (.int .i64 t113)) (fun _ hk => hk.2) (.slice Ao41 t114.length co41)) (fun _ h_ => h_.1))) hb); have n1_ := Aside0.mk (Kd.R_elder' (by (with_reducible repeat (first | apply Kd.R_alloc | apply Kd.R_drewN | apply Kd.R_drew)); exact (Kd.R_mono (Kd.R_far (p := ⟨gb117, 1, none⟩) (Kd.R_far (p := ⟨gb117, 0, none⟩) (Kd.R_types HO109.out BK117.out (by decide)) (fun _ hk => hk.2) (.int .i64 t113)) (fun _ hk => hk.2) (.slice Ao41 t114.length co41)) (fun _ h_ => h_.1))) (Kd.R_base ho0) hb); have n2_ := Aside0.mk (Kd.R_elder' (by (with_reducible repeat (first | apply Kd.R_alloc | apply Kd.R_drewN | apply Kd.R_drew)); exact (Kd.R_mono (Kd.R_far (p := ⟨gb117, 1, none⟩) (Kd.R_far (p := ⟨gb117, 0, none⟩) (Kd.R_types HO112.out BK117.out (by decide)) (fun _ hk => hk.2) (.int .i64 t113)) (fun _ hk => hk.2) (.slice Ao41 t114.length co41)) (fun _ h_ => h_.1))) (Kd.R_base ho0) hb); have n3_ := Aside0.mk (Kd.R_below (by (with_reducible repeat (first | apply Kd.R_alloc | apply Kd.R_drewN | apply Kd.R_drew)); exact (Kd.R_mono (Kd.R_far (p := ⟨gb117, 1, none⟩) (Kd.R_far (p := ⟨gb117, 0, none⟩) (Kd.R_types HO116.out BK117.out (by decide)) (fun _ hk => hk.2) (.int .i64 t113)) (fun _ hk => hk.2) (.slice Ao41 t114.length co41)) (fun _ h_ => h_.1))) hb); have n4_ := Aside0.mk (Kd.R_lower (Kd.R_new' (Kd.R_new' ho0 (Kd.R_lt (by (with_reducible repeat (first | apply Kd.R_alloc | apply Kd.R_drewN | apply Kd.R_drew)); exact (Kd.R_mono (Kd.R_far (p := ⟨gb117, 1, none⟩) (Kd.R_far (p := ⟨gb117, 0, none⟩) (Kd.R_types HO109.out BK117.out (by decide)) (fun _ hk => hk.2) (.int .i64 t113)) (fun _ hk => hk.2) (.slice Ao41 t114.length co41)) (fun _ h_ => h_.1))))) (Kd.R_lt (by (with_reducible repeat (first | apply Kd.R_alloc | apply Kd.R_drewN | apply Kd.R_drew)); exact (Kd.R_mono (Kd.R_far (p := ⟨gb117, 1, none⟩) (Kd.R_far (p := ⟨gb117, 0, none⟩) (Kd.R_types HO112.out BK117.out (by decide)) (fun _ hk => hk.2) (.int .i64 t113)) (fun _ hk => hk.2) (.slice Ao41 t114.length co41)) (fun _ h_ => h_.1))))) (below_size (by repeat (first | (with_reducible first | exact HB.out | apply below_alloc | apply pw_below_drewN | apply below_drew1 | refine below_set ?_ GE101.out | refine below_set ?_ GE117.out) | exact HB.out)))); have n5_ := Aside0.mk (blk_below (g := gb101) (o := .cells #[.int .i64 a0_0, .slice A0_1 l0_1.length c0_1] 44 (0, 0)) (by (with_reducible repeat (first | refine blk_drewN ?_ _ | refine blk_drew ?_ | refine blk_alloc ?_ _)); refine blk_far ?_ NB101_117.out _; (with_reducible repeat (first | refine blk_drewN ?_ _ | refine blk_drew ?_ | refine blk_alloc ?_ _)); refine blk_far ?_ NB101_117.out _; (with_reducible repeat (first | refine blk_drewN ?_ _ | refine blk_drew ?_ | refine blk_alloc ?_ _)); exact BK101.out) hb); have n6_ := Aside0.mk (blk_below (g := gb117) (o := .cells #[.int .i64 t113, .slice Ao41 t114.length co41] 25 (0, 0)) (by (with_reducible repeat (first | refine blk_drewN ?_ _ | refine blk_drew ?_ | refine blk_alloc ?_ _)); refine blk_put (cs := #[.int .i64 t113, .slice none 0 0]) ?_ 1 _ rfl; (with_reducible repeat (first | refine blk_drewN ?_ _ | refine blk_drew ?_ | refine blk_alloc ?_ _)); refine blk_put (cs := #[.int .i64 0, .slice none 0 0]) ?_ 0 _ rfl; (with_reducible repeat (first | refine blk_drewN ?_ _ | refine blk_drew ?_ | refine blk_alloc ?_ _)); exact BK117.out) hb); have n7_ := Aside0.mk (below_step (by repeat (first | (with_reducible first | exact HB.out | apply below_alloc | apply pw_below_drewN | apply below_drew1 | refine below_set ?_ GE101.out | refine below_set ?_ GE117.out) | exact HB.out)) hb); clear HO106; clear HO109; clear HO112; clear HO116; clear BK101; clear BK117; clear HB; have HO106 := n0_; have HO109 := n1_; have HO112 := n2_; have HO116 := n3_; have HO120 := n4_; have BK101 := n5_; have BK117 := n6_; have HB := n7_; clear n0_ n1_ n2_ n3_ n4_ n5_ n6_ n7_; (try clear hb); (try clear hb2); (try clear hk); (try clear hi); (try clear ho0); have hcz43_0 : w42.cell? ⟨gb117, 0, none⟩ = some (.int .i64 t113) := (blk_cell BK117.out 0).trans rfl; have hcz43_1 : w42.cell? ⟨gb117, 1, none⟩ = some (.slice Ao41 t114.length co41) := (blk_cell BK117.out 1).trans rfl; have hfz43_0 := blk_frozen BK117.out 0; have hfz43_1 := blk_frozen BK117.out 1; obtain ⟨Ao44, co44, eo44⟩ := Kd.R_slice HO120.out; subst eo44) | ((with_reducible refine gate_callee (f := 76) rfl ?_); refine goesL_ (some 33) rfl rfl Try.func76 (by kernel_rfl) rfl #[.agg #[.int .i64 t113, .slice Ao41 t114.length co41], .slice Ao44 t118.length co44] rfl (by (try simp only [List.map_toArray, List.map_cons, List.map_nil]); first | done | rfl | (simp only [List.length_drop, List.length_take]; rfl)) ?_; (with_reducible refine (impl_ManyServe.calls k t113 _ _ t114 _ _ t118 t121 _ ?side1 ?side2 ?side3 ?side4 A15.out).mono ?_); (case side1 => repeat (first | exact (Kd.R_reads' HO116.out).2.2 | (with_reducible refine Kd.C_alloc ?_ _) | (with_reducible refine Kd.C_drewN ?_ _) | (with_reducible refine Kd.C_drew ?_))); (case side2 => exact (Kd.R_reads' HO116.out).2.1); (case side3 => repeat (first | exact (Kd.R_reads' HO120.out).2.2 | (with_reducible refine Kd.C_alloc ?_ _) | (with_reducible refine Kd.C_drewN ?_ _) | (with_reducible refine Kd.C_drew ?_))); (case side4 => exact (Kd.R_reads' HO120.out).2.1); rintro e w45 ⟨v122, rfl, ho0, hb⟩; refine ⟨_, rfl, ?_⟩; have n0_ := Aside0.mk (Kd.R_below (by (with_reducible repeat (first | apply Kd.R_alloc | apply Kd.R_drewN | apply Kd.R_drew)); exact HO106.out) hb); have n1_ := Aside0.mk (Kd.R_elder' (by (with_reducible repeat (first | apply Kd.R_alloc | apply Kd.R_drewN | apply Kd.R_drew)); exact HO109.out) (Kd.R_base ho0) hb); have n2_ := Aside0.mk (Kd.R_elder' (by (with_reducible repeat (first | apply Kd.R_alloc | apply Kd.R_drewN | apply Kd.R_drew)); exact HO112.out) (Kd.R_base ho0) hb); have n3_ := Aside0.mk (Kd.R_below (by (with_reducible repeat (first | apply Kd.R_alloc | apply Kd.R_drewN | apply Kd.R_drew)); exact HO116.out) hb); have n4_ := Aside0.mk (Kd.R_elder' (by (with_reducible repeat (first | apply Kd.R_alloc | apply Kd.R_drewN | apply Kd.R_drew)); exact HO120.out) (Kd.R_base ho0) hb); have n5_ := Aside0.mk (Kd.R_lower (Kd.R_new' (Kd.R_new' (Kd.R_new' ho0 (Kd.R_lt (by (with_reducible repeat (first | apply Kd.R_alloc | apply Kd.R_drewN | apply Kd.R_drew)); exact HO109.out))) (Kd.R_lt (by (with_reducible repeat (first | apply Kd.R_alloc | apply Kd.R_drewN | apply Kd.R_drew)); exact HO112.out))) (Kd.R_lt (by (with_reducible repeat (first | apply Kd.R_alloc | apply Kd.R_drewN | apply Kd.R_drew)); exact HO120.out))) (below_size (by repeat (first | (with_reducible first | exact HB.out | apply below_alloc | apply pw_below_drewN | apply below_drew1 | refine below_set ?_ GE101.out | refine below_set ?_ GE117.out) | exact HB.out)))); have n6_ := Aside0.mk (blk_below (g := gb101) (o := .cells #[.int .i64 a0_0, .slice A0_1 l0_1.length c0_1] 44 (0, 0)) (by (with_reducible repeat (first | refine blk_drewN ?_ _ | refine blk_drew ?_ | refine blk_alloc ?_ _)); exact BK101.out) hb); have n7_ := Aside0.mk (blk_below (g := gb117) (o := .cells #[.int .i64 t113, .slice Ao41 t114.length co41] 25 (0, 0)) (by (with_reducible repeat (first | refine blk_drewN ?_ _ | refine blk_drew ?_ | refine blk_alloc ?_ _)); exact BK117.out) hb); have n8_ := Aside0.mk (below_step (by repeat (first | (with_reducible first | exact HB.out | apply below_alloc | apply pw_below_drewN | apply below_drew1 | refine below_set ?_ GE101.out | refine below_set ?_ GE117.out) | exact HB.out)) hb); clear HO106; clear HO109; clear HO112; clear HO116; clear HO120; clear BK101; clear BK117; clear HB; have HO106 := n0_; have HO109 := n1_; have HO112 := n2_; have HO116 := n3_; have HO120 := n4_; have HO123 := n5_; have BK101 := n6_; have BK117 := n7_; have HB := n8_; clear n0_ n1_ n2_ n3_ n4_ n5_ n6_ n7_ n8_; (try clear hb); (try clear hb2); (try clear hk); (try clear hi); (try clear ho0); obtain ⟨Ao46, co46, eo46⟩ := Kd.R_slice HO123.out; subst eo46; obtain ⟨Ao47, co47, eo47⟩ := Kd.R_slice HO112.out; subst eo47) | ((with_reducible refine gate_callee (f := 48) rfl ?_); refine goesL_ (some 36) rfl rfl Try.func48 (by kernel_rfl) rfl #[.slice Ao46 t121.length co46, .slice Ao47 t110.length co47] rfl (by (try simp only [List.map_toArray, List.map_cons, List.map_nil]); first | done | rfl | (simp only [List.length_drop, List.length_take]; rfl)) ?_; (with_reducible refine (laws_eqIntS.calls k _ _ t121 _ _ t110 true _ ?side1 ?side2 ?side3 ?side4 A16.out).mono ?_); (case side1 => repeat (first | exact (Kd.R_reads' HO123.out).2.2 | (with_reducible refine Kd.C_alloc ?_ _) | (with_reducible refine Kd.C_drewN ?_ _) | (with_reducible refine Kd.C_drew ?_))); (case side2 => exact (Kd.R_reads' HO123.out).2.1); (case side3 => repeat (first | exact (Kd.R_reads' HO112.out).2.2 | (with_reducible refine Kd.C_alloc ?_ _) | (with_reducible refine Kd.C_drewN ?_ _) | (with_reducible refine Kd.C_drew ?_))); (case side4 => exact (Kd.R_reads' HO112.out).2.1); rintro e w' ⟨rfl, ⟨nd, rfl⟩⟩; refine ⟨_, rfl, ?_⟩))
      (try (rw [drewN_self w45]; generalize hq_ : World.drewN w45 _ = w45; have n0_ : Aside0 (Kd.R k33 33 w45 w.heap.size (fun k_ => (True ∧ some k_ ≠ (.slice Ao41 t114.length co41 : Value).ownBlock)) (.slice Ao33 t104.length co33) t104) := ⟨by rw [← hq_]; exact (by (with_reducible repeat (first | apply Kd.R_alloc | apply Kd.R_drewN | apply Kd.R_drew)); exact HO106.out)⟩; have n1_ : Aside0 (Kd.R (Kd.int .i64) 3 w45 w.heap.size (fun k_ => (((True ∧ some k_ ≠ (.slice Ao47 t110.length co47 : Value).ownBlock) ∧ some k_ ≠ (.slice Ao44 t118.length co44 : Value).ownBlock) ∧ some k_ ≠ (.slice Ao46 t121.length co46 : Value).ownBlock)) (.slice Ao34 t107.length co34) t107) := ⟨by rw [← hq_]; exact (by (with_reducible repeat (first | apply Kd.R_alloc | apply Kd.R_drewN | apply Kd.R_drew)); exact HO109.out)⟩; have n2_ : Aside0 (Kd.R (Kd.int .i64) 3 w45 w.heap.size (fun k_ => (((True ∧ some k_ ≠ (.slice Ao34 t107.length co34 : Value).ownBlock) ∧ some k_ ≠ (.slice Ao44 t118.length co44 : Value).ownBlock) ∧ some k_ ≠ (.slice Ao46 t121.length co46 : Value).ownBlock)) (.slice Ao47 t110.length co47) t110) := ⟨by rw [← hq_]; exact (by (with_reducible repeat (first | apply Kd.R_alloc | apply Kd.R_drewN | apply Kd.R_drew)); exact HO112.out)⟩; have n3_ : Aside0 (Kd.R k33 33 w45 w.heap.size (fun k_ => (True ∧ some k_ ≠ (.slice Ao33 t104.length co33 : Value).ownBlock)) (.slice Ao41 t114.length co41) t114) := ⟨by rw [← hq_]; exact (by (with_reducible repeat (first | apply Kd.R_alloc | apply Kd.R_drewN | apply Kd.R_drew)); exact HO116.out)⟩; have n4_ : Aside0 (Kd.R (Kd.int .i64) 3 w45 w.heap.size (fun k_ => (((True ∧ some k_ ≠ (.slice Ao34 t107.length co34 : Value).ownBlock) ∧ some k_ ≠ (.slice Ao47 t110.length co47 : Value).ownBlock) ∧ some k_ ≠ (.slice Ao46 t121.length co46 : Value).ownBlock)) (.slice Ao44 t118.length co44) t118) := ⟨by rw [← hq_]; exact (by (with_reducible repeat (first | apply Kd.R_alloc | apply Kd.R_drewN | apply Kd.R_drew)); exact HO120.out)⟩; have n5_ : Aside0 (Kd.R (Kd.int .i64) 3 w45 w.heap.size (fun k_ => (((True ∧ some k_ ≠ (.slice Ao34 t107.length co34 : Value).ownBlock) ∧ some k_ ≠ (.slice Ao47 t110.length co47 : Value).ownBlock) ∧ some k_ ≠ (.slice Ao44 t118.length co44 : Value).ownBlock)) (.slice Ao46 t121.length co46) t121) := ⟨by rw [← hq_]; exact (by (with_reducible repeat (first | apply Kd.R_alloc | apply Kd.R_drewN | apply Kd.R_drew)); exact HO123.out)⟩; have n6_ : Aside0 (w45.heap[gb101]? = some (.cells #[.int .i64 a0_0, .slice A0_1 l0_1.length c0_1] 44 (0, 0))) := ⟨by rw [← hq_]; exact (by (with_reducible repeat (first | refine blk_drewN ?_ _ | refine blk_drew ?_ | refine blk_alloc ?_ _)); exact BK101.out)⟩; have n7_ : Aside0 (w45.heap[gb117]? = some (.cells #[.int .i64 t113, .slice Ao41 t114.length co41] 25 (0, 0))) := ⟨by rw [← hq_]; exact (by (with_reducible repeat (first | refine blk_drewN ?_ _ | refine blk_drew ?_ | refine blk_alloc ?_ _)); exact BK117.out)⟩; have n8_ : Aside0 (Below w.heap.size w w45) := ⟨by rw [← hq_]; exact (by repeat (first | (with_reducible first | exact HB.out | apply below_alloc | apply pw_below_drewN | apply below_drew1 | refine below_set ?_ GE101.out | refine below_set ?_ GE117.out) | exact HB.out))⟩; clear HO106 HO109 HO112 HO116 HO120 HO123 BK101 BK117 HB hq_; have HO106 := n0_; have HO109 := n1_; have HO112 := n2_; have HO116 := n3_; have HO120 := n4_; have HO123 := n5_; have BK101 := n6_; have BK117 := n7_; have HB := n8_; clear n0_ n1_ n2_ n3_ n4_ n5_ n6_ n7_ n8_))
      have n0_ := Aside0.mk (Kd.R_drew HO106.out)
      have n1_ := Aside0.mk (Kd.R_drew HO109.out)
      have n2_ := Aside0.mk (Kd.R_drew HO112.out)
      have n3_ := Aside0.mk (Kd.R_drew HO116.out)
      have n4_ := Aside0.mk (Kd.R_drew HO120.out)
      have n5_ := Aside0.mk (Kd.R_drew HO123.out)
      have n6_ := Aside0.mk (blk_drew BK101.out)
      have n7_ := Aside0.mk (blk_drew BK117.out)
      have n8_ := Aside0.mk (below_drew1 HB.out)
      clear HO106
      clear HO109
      clear HO112
      clear HO116
      clear HO120
      clear HO123
      clear BK101
      clear BK117
      clear HB
      have HO106 := n0_
      have HO109 := n1_
      have HO112 := n2_
      have HO116 := n3_
      have HO120 := n4_
      have HO123 := n5_
      have BK101 := n6_
      have BK117 := n7_
      have HB := n8_
      clear n0_ n1_ n2_ n3_ n4_ n5_ n6_ n7_ n8_
      refine start_ (n := 5) (S := fun w' => w'.cell? ⟨gb117, 0, none⟩ = some (.int .i64 t113) ∧ w'.cell? ⟨gb117, 1, none⟩ = some (.slice Ao41 t114.length co41) ∧ w'.cell? ⟨gb101, 0, none⟩ = some (.int .i64 a0_0) ∧ w'.cell? ⟨gb101, 1, none⟩ = some (.slice A0_1 l0_1.length c0_1)) (ds := []) #[false, false, false, false, false] (by kernel_rfl) rfl rfl ⟨(blk_cell BK117.out 0).trans rfl, (blk_cell BK117.out 1).trans rfl, (blk_cell BK101.out 0).trans rfl, (blk_cell BK101.out 1).trans rfl⟩ (fun hHeld => ?_)
      generalize w45.drew = w48 at HO106 HO109 HO112 HO116 HO120 HO123 BK101 BK117 HB hHeld ⊢
      refine take_ (i := 0) (N := some 38) (v := ?_) (a' := ?_) #[true, false, false, false, false] rfl rfl (by kernel_rfl) (fun _ _ _ h => h) (Or.inl ⟨by rfl, ?_⟩) hHeld ?_ ?_
      rotate_left
      ·
       rintro w' ⟨s0, s1, s2, s3⟩
       go_simp
       with_reducible rfl
      rotate_left
      ·
       simp only [Act.put, List.setIfInBounds_toArray, List.set_cons_zero, List.set_cons_succ, i64_w, i32_w]
       rfl
      refine take_ (i := 1) (N := some 39) (v := ?_) (a' := ?_) #[true, true, false, false, false] rfl rfl (by kernel_rfl) (fun _ _ _ h => h) (Or.inl ⟨by rfl, ?_⟩) hHeld ?_ ?_
      rotate_left
      ·
       rintro w' ⟨s0, s1, s2, s3⟩
       go_simp
       with_reducible rfl
      rotate_left
      ·
       simp only [Act.put, List.setIfInBounds_toArray, List.set_cons_zero, List.set_cons_succ, i64_w, i32_w]
       rfl
      refine one_ (i := 2) (N := some 40) #[true, true, true, false, false] rfl rfl (by kernel_rfl) (by decide) (fun K hK => ?_)
      refine goes_ Try.func47 (by kernel_rfl) rfl #[.agg #[.int .i64 a0_0, .slice A0_1 l0_1.length c0_1]] (by rfl) rfl rfl (by (try simp only [List.map_toArray, List.map_cons, List.map_nil]); first | done | rfl | (simp only [List.length_drop, List.length_take]; rfl)) ?_
      with_reducible refine (laws_toNet.calls k a0_0 _ _ l0_1 t125 t126 _ ?side1 ?side2 A18.out).mono ?_
      (case side1 => repeat (first | exact (Kd.C_below HR0_1.out HB.out) | (with_reducible refine Kd.C_alloc ?_ _) | (with_reducible refine Kd.C_drewN ?_ _) | (with_reducible refine Kd.C_drew ?_)))
      (case side2 => exact HC0_1.out)
      rintro e w49 ⟨v127, rfl, ho0, hb⟩
      refine ⟨_, rfl, ?_⟩
      have n0_ := Aside0.mk (Kd.R_elder' (by (with_reducible repeat (first | apply Kd.R_alloc | apply Kd.R_drewN | apply Kd.R_drew)); exact HO106.out) (Kd.R_base ho0) hb)
      have n1_ := Aside0.mk (Kd.R_below (by (with_reducible repeat (first | apply Kd.R_alloc | apply Kd.R_drewN | apply Kd.R_drew)); exact HO109.out) hb)
      have n2_ := Aside0.mk (Kd.R_below (by (with_reducible repeat (first | apply Kd.R_alloc | apply Kd.R_drewN | apply Kd.R_drew)); exact HO112.out) hb)
      have n3_ := Aside0.mk (Kd.R_elder' (by (with_reducible repeat (first | apply Kd.R_alloc | apply Kd.R_drewN | apply Kd.R_drew)); exact HO116.out) (Kd.R_base ho0) hb)
      have n4_ := Aside0.mk (Kd.R_below (by (with_reducible repeat (first | apply Kd.R_alloc | apply Kd.R_drewN | apply Kd.R_drew)); exact HO120.out) hb)
      have n5_ := Aside0.mk (Kd.R_below (by (with_reducible repeat (first | apply Kd.R_alloc | apply Kd.R_drewN | apply Kd.R_drew)); exact HO123.out) hb)
      have n6_ := Aside0.mk (Kd.R_lower (Kd.R_new' (Kd.R_new' ho0 (Kd.R_lt (by (with_reducible repeat (first | apply Kd.R_alloc | apply Kd.R_drewN | apply Kd.R_drew)); exact HO106.out))) (Kd.R_lt (by (with_reducible repeat (first | apply Kd.R_alloc | apply Kd.R_drewN | apply Kd.R_drew)); exact HO116.out))) (below_size (by repeat (first | (with_reducible first | exact HB.out | apply below_alloc | apply pw_below_drewN | apply below_drew1 | refine below_set ?_ GE101.out | refine below_set ?_ GE117.out) | exact HB.out))))
      have n7_ := Aside0.mk (blk_below (g := gb101) (o := .cells #[.int .i64 a0_0, .slice A0_1 l0_1.length c0_1] 44 (0, 0)) (by (with_reducible repeat (first | refine blk_drewN ?_ _ | refine blk_drew ?_ | refine blk_alloc ?_ _)); exact BK101.out) hb)
      have n8_ := Aside0.mk (blk_below (g := gb117) (o := .cells #[.int .i64 t113, .slice Ao41 t114.length co41] 25 (0, 0)) (by (with_reducible repeat (first | refine blk_drewN ?_ _ | refine blk_drew ?_ | refine blk_alloc ?_ _)); exact BK117.out) hb)
      have n9_ := Aside0.mk (below_step (by repeat (first | (with_reducible first | exact HB.out | apply below_alloc | apply pw_below_drewN | apply below_drew1 | refine below_set ?_ GE101.out | refine below_set ?_ GE117.out) | exact HB.out)) hb)
      clear HO106
      clear HO109
      clear HO112
      clear HO116
      clear HO120
      clear HO123
      clear BK101
      clear BK117
      clear HB
      have HO106 := n0_
      have HO109 := n1_
      have HO112 := n2_
      have HO116 := n3_
      have HO120 := n4_
      have HO123 := n5_
      have HO128 := n6_
      have BK101 := n7_
      have BK117 := n8_
      have HB := n9_
      clear n0_ n1_ n2_ n3_ n4_ n5_ n6_ n7_ n8_ n9_
      (try clear hb)
      (try clear hb2)
      (try clear hk)
      (try clear hi)
      (try clear ho0)
      obtain ⟨Ao50, co50, eo50⟩ := Kd.R_slice HO128.out
      (first | subst eo50 | (injection eo50 with f1_ f2_ f3_; have f4_ := f1_.symm; have f5_ := f3_.symm; clear f1_ f2_ f3_; subst f4_; subst f5_))
      refine hK.out _ _ ⟨(blk_cell BK117.out 0).trans rfl, (blk_cell BK117.out 1).trans rfl, (blk_cell BK101.out 0).trans rfl, (blk_cell BK101.out 1).trans rfl⟩ (fun hHeld => ?_)
      clear hK K
      refine norm_ (a' := ?_) ?_ ?_
      rotate_left
      ·
       show Act.put _ (some 40) _ = _
       simp only [Act.put, List.setIfInBounds_toArray, List.set_cons_zero, List.set_cons_succ, i64_w, i32_w]
       rfl
      refine one_ (i := 3) (N := some 41) #[true, true, true, true, false] rfl rfl (by kernel_rfl) (by decide) (fun K hK => ?_)
      refine goes_ Try.func49 (by kernel_rfl) rfl #[.agg #[.int .i64 t113, .slice Ao41 t114.length co41], .agg #[.int .i64 t125, .slice Ao50 t126.length co50]] (by rfl) rfl rfl (by (try simp only [List.map_toArray, List.map_cons, List.map_nil]); first | done | rfl | (simp only [List.length_drop, List.length_take]; rfl)) ?_
      with_reducible refine (laws_eqNet.calls k t113 _ _ t114 t125 _ _ t126 true _ ?side1 ?side2 ?side3 ?side4 A19.out).mono ?_
      (case side1 => repeat (first | exact (Kd.R_reads' HO116.out).2.2 | (with_reducible refine Kd.C_alloc ?_ _) | (with_reducible refine Kd.C_drewN ?_ _) | (with_reducible refine Kd.C_drew ?_)))
      (case side2 => exact (Kd.R_reads' HO116.out).2.1)
      (case side3 => repeat (first | exact (Kd.R_reads' HO128.out).2.2 | (with_reducible refine Kd.C_alloc ?_ _) | (with_reducible refine Kd.C_drewN ?_ _) | (with_reducible refine Kd.C_drew ?_)))
      (case side4 => exact (Kd.R_reads' HO128.out).2.1)
      rintro e w51 ⟨rfl, hb⟩
      refine ⟨_, rfl, ?_⟩
      have n0_ := Aside0.mk (Kd.R_below (by (with_reducible repeat (first | apply Kd.R_alloc | apply Kd.R_drewN | apply Kd.R_drew)); exact HO106.out) hb)
      have n1_ := Aside0.mk (Kd.R_below (by (with_reducible repeat (first | apply Kd.R_alloc | apply Kd.R_drewN | apply Kd.R_drew)); exact HO109.out) hb)
      have n2_ := Aside0.mk (Kd.R_below (by (with_reducible repeat (first | apply Kd.R_alloc | apply Kd.R_drewN | apply Kd.R_drew)); exact HO112.out) hb)
      have n3_ := Aside0.mk (Kd.R_below (by (with_reducible repeat (first | apply Kd.R_alloc | apply Kd.R_drewN | apply Kd.R_drew)); exact HO116.out) hb)
      have n4_ := Aside0.mk (Kd.R_below (by (with_reducible repeat (first | apply Kd.R_alloc | apply Kd.R_drewN | apply Kd.R_drew)); exact HO120.out) hb)
      have n5_ := Aside0.mk (Kd.R_below (by (with_reducible repeat (first | apply Kd.R_alloc | apply Kd.R_drewN | apply Kd.R_drew)); exact HO123.out) hb)
      have n6_ := Aside0.mk (Kd.R_below (by (with_reducible repeat (first | apply Kd.R_alloc | apply Kd.R_drewN | apply Kd.R_drew)); exact HO128.out) hb)
      have n7_ := Aside0.mk (blk_below (g := gb101) (o := .cells #[.int .i64 a0_0, .slice A0_1 l0_1.length c0_1] 44 (0, 0)) (by (with_reducible repeat (first | refine blk_drewN ?_ _ | refine blk_drew ?_ | refine blk_alloc ?_ _)); exact BK101.out) hb)
      have n8_ := Aside0.mk (blk_below (g := gb117) (o := .cells #[.int .i64 t113, .slice Ao41 t114.length co41] 25 (0, 0)) (by (with_reducible repeat (first | refine blk_drewN ?_ _ | refine blk_drew ?_ | refine blk_alloc ?_ _)); exact BK117.out) hb)
      have n9_ := Aside0.mk (below_step (by repeat (first | (with_reducible first | exact HB.out | apply below_alloc | apply pw_below_drewN | apply below_drew1 | refine below_set ?_ GE101.out | refine below_set ?_ GE117.out) | exact HB.out)) hb)
      clear HO106
      clear HO109
      clear HO112
      clear HO116
      clear HO120
      clear HO123
      clear HO128
      clear BK101
      clear BK117
      clear HB
      have HO106 := n0_
      have HO109 := n1_
      have HO112 := n2_
      have HO116 := n3_
      have HO120 := n4_
      have HO123 := n5_
      have HO128 := n6_
      have BK101 := n7_
      have BK117 := n8_
      have HB := n9_
      clear n0_ n1_ n2_ n3_ n4_ n5_ n6_ n7_ n8_ n9_
      (try clear hb)
      (try clear hb2)
      (try clear hk)
      (try clear hi)
      refine hK.out _ _ ⟨(blk_cell BK117.out 0).trans rfl, (blk_cell BK117.out 1).trans rfl, (blk_cell BK101.out 0).trans rfl, (blk_cell BK101.out 1).trans rfl⟩ (fun hHeld => ?_)
      clear hK K
      refine norm_ (a' := ?_) ?_ ?_
      rotate_left
      ·
       show Act.put _ (some 41) _ = _
       simp only [Act.put, List.setIfInBounds_toArray, List.set_cons_zero, List.set_cons_succ, i64_w, i32_w]
       rfl
      refine pure_ (i := 4) (N := some 42) (v := ?_) (a' := ?_) #[true, true, true, true, true] rfl rfl (by kernel_rfl) (fun _ _ _ h => h) (Or.inl ⟨by rfl, ?_⟩) ?_ ?_
      rotate_left
      ·
       intro w'
       go_simp
       with_reducible rfl
      rotate_left
      ·
       simp only [Act.put, List.setIfInBounds_toArray, List.set_cons_zero, List.set_cons_succ, i64_w, i32_w]
       rfl
      refine done_ (by kernel_rfl) ?_
      go_upto_region 20 with (first | ((with_reducible refine gate_callee (f := 53) rfl ?_); refine goesL_ (some 45) rfl rfl Try.func53 (by kernel_rfl) rfl #[.slice A1 l1.length c1] rfl (by (try simp only [List.map_toArray, List.map_cons, List.map_nil]); first | done | rfl | (simp only [List.length_drop, List.length_take]; rfl)) ?_; (with_reducible refine (laws_toIntS.calls k _ _ l1 t130 _ ?side1 ?side2 A21.out).mono ?_); (case side1 => repeat (first | exact (Kd.C_below HR1.out HB.out) | (with_reducible refine Kd.C_alloc ?_ _) | (with_reducible refine Kd.C_drewN ?_ _) | (with_reducible refine Kd.C_drew ?_))); (case side2 => exact HC1.out); rintro e w52 ⟨v131, rfl, ho0, hb⟩; refine ⟨_, rfl, ?_⟩; have n0_ := Aside0.mk (Kd.R_below (by (with_reducible repeat (first | apply Kd.R_alloc | apply Kd.R_drewN | apply Kd.R_drew)); exact HO106.out) hb); have n1_ := Aside0.mk (Kd.R_elder' (by (with_reducible repeat (first | apply Kd.R_alloc | apply Kd.R_drewN | apply Kd.R_drew)); exact HO109.out) (Kd.R_base ho0) hb); have n2_ := Aside0.mk (Kd.R_elder' (by (with_reducible repeat (first | apply Kd.R_alloc | apply Kd.R_drewN | apply Kd.R_drew)); exact HO112.out) (Kd.R_base ho0) hb); have n3_ := Aside0.mk (Kd.R_below (by (with_reducible repeat (first | apply Kd.R_alloc | apply Kd.R_drewN | apply Kd.R_drew)); exact HO116.out) hb); have n4_ := Aside0.mk (Kd.R_elder' (by (with_reducible repeat (first | apply Kd.R_alloc | apply Kd.R_drewN | apply Kd.R_drew)); exact HO120.out) (Kd.R_base ho0) hb); have n5_ := Aside0.mk (Kd.R_elder' (by (with_reducible repeat (first | apply Kd.R_alloc | apply Kd.R_drewN | apply Kd.R_drew)); exact HO123.out) (Kd.R_base ho0) hb); have n6_ := Aside0.mk (Kd.R_below (by (with_reducible repeat (first | apply Kd.R_alloc | apply Kd.R_drewN | apply Kd.R_drew)); exact HO128.out) hb); have n7_ := Aside0.mk (Kd.R_lower (Kd.R_new' (Kd.R_new' (Kd.R_new' (Kd.R_new' ho0 (Kd.R_lt (by (with_reducible repeat (first | apply Kd.R_alloc | apply Kd.R_drewN | apply Kd.R_drew)); exact HO109.out))) (Kd.R_lt (by (with_reducible repeat (first | apply Kd.R_alloc | apply Kd.R_drewN | apply Kd.R_drew)); exact HO112.out))) (Kd.R_lt (by (with_reducible repeat (first | apply Kd.R_alloc | apply Kd.R_drewN | apply Kd.R_drew)); exact HO120.out))) (Kd.R_lt (by (with_reducible repeat (first | apply Kd.R_alloc | apply Kd.R_drewN | apply Kd.R_drew)); exact HO123.out))) (below_size (by repeat (first | (with_reducible first | exact HB.out | apply below_alloc | apply pw_below_drewN | apply below_drew1 | refine below_set ?_ GE101.out | refine below_set ?_ GE117.out) | exact HB.out)))); have n8_ := Aside0.mk (blk_below (g := gb101) (o := .cells #[.int .i64 a0_0, .slice A0_1 l0_1.length c0_1] 44 (0, 0)) (by (with_reducible repeat (first | refine blk_drewN ?_ _ | refine blk_drew ?_ | refine blk_alloc ?_ _)); exact BK101.out) hb); have n9_ := Aside0.mk (blk_below (g := gb117) (o := .cells #[.int .i64 t113, .slice Ao41 t114.length co41] 25 (0, 0)) (by (with_reducible repeat (first | refine blk_drewN ?_ _ | refine blk_drew ?_ | refine blk_alloc ?_ _)); exact BK117.out) hb); have n10_ := Aside0.mk (below_step (by repeat (first | (with_reducible first | exact HB.out | apply below_alloc | apply pw_below_drewN | apply below_drew1 | refine below_set ?_ GE101.out | refine below_set ?_ GE117.out) | exact HB.out)) hb); clear HO106; clear HO109; clear HO112; clear HO116; clear HO120; clear HO123; clear HO128; clear BK101; clear BK117; clear HB; have HO106 := n0_; have HO109 := n1_; have HO112 := n2_; have HO116 := n3_; have HO120 := n4_; have HO123 := n5_; have HO128 := n6_; have HO132 := n7_; have BK101 := n8_; have BK117 := n9_; have HB := n10_; clear n0_ n1_ n2_ n3_ n4_ n5_ n6_ n7_ n8_ n9_ n10_; (try clear hb); (try clear hb2); (try clear hk); (try clear hi); (try clear ho0); obtain ⟨Ao53, co53, eo53⟩ := Kd.R_slice HO132.out; subst eo53) | ((with_reducible refine gate_callee (f := 48) rfl ?_); refine goesL_ (some 46) rfl rfl Try.func48 (by kernel_rfl) rfl #[.slice Ao44 t118.length co44, .slice Ao53 t130.length co53] rfl (by (try simp only [List.map_toArray, List.map_cons, List.map_nil]); first | done | rfl | (simp only [List.length_drop, List.length_take]; rfl)) ?_; (with_reducible refine (laws_eqIntS.calls k _ _ t118 _ _ t130 true _ ?side1 ?side2 ?side3 ?side4 A22.out).mono ?_); (case side1 => repeat (first | exact (Kd.R_reads' HO120.out).2.2 | (with_reducible refine Kd.C_alloc ?_ _) | (with_reducible refine Kd.C_drewN ?_ _) | (with_reducible refine Kd.C_drew ?_))); (case side2 => exact (Kd.R_reads' HO120.out).2.1); (case side3 => repeat (first | exact (Kd.R_reads' HO132.out).2.2 | (with_reducible refine Kd.C_alloc ?_ _) | (with_reducible refine Kd.C_drewN ?_ _) | (with_reducible refine Kd.C_drew ?_))); (case side4 => exact (Kd.R_reads' HO132.out).2.1); rintro e w' ⟨rfl, ⟨nd, rfl⟩⟩; refine ⟨_, rfl, ?_⟩; have hcz54_0 : w52.cell? ⟨gb117, 0, none⟩ = some (.int .i64 t113) := (blk_cell BK117.out 0).trans rfl; have hcz54_1 : w52.cell? ⟨gb117, 1, none⟩ = some (.slice Ao41 t114.length co41) := (blk_cell BK117.out 1).trans rfl; have hfz54_0 := blk_frozen BK117.out 0; have hfz54_1 := blk_frozen BK117.out 1) | ((with_reducible refine gate_callee (f := 50) rfl ?_); refine goesL_ (some 50) rfl rfl Try.func50 (by kernel_rfl) rfl #[.agg #[.int .i64 t113, .slice Ao41 t114.length co41], .int .i64 1] rfl (by (try simp only [List.map_toArray, List.map_cons, List.map_nil]); first | done | rfl | (simp only [List.length_drop, List.length_take]; rfl)) ?_; (with_reducible refine (laws_markNet.calls k t113 (fun k_ => some k_ = (.slice Ao41 t114.length co41 : Value).ownBlock) (.slice Ao41 t114.length co41) t114 1 t134 t135 w _ ?side1 ?side2 A24.out).mono ?_); (case side1 => repeat (first | (with_reducible first | exact HB.out | apply below_alloc | apply pw_below_drewN | apply below_drew1 | refine below_set ?_ GE101.out | refine below_set ?_ GE117.out) | exact HB.out)); (case side2 => exact Kd.R_tight rfl HO116.out); rintro e w55 ⟨rfl, hy0, hb, hkp⟩; refine ⟨_, rfl, ?_⟩; have n0_ := Aside0.mk (blk_kept (by (with_reducible repeat (first | refine blk_drewN ?_ _ | refine blk_drew ?_ | refine blk_alloc ?_ _)); exact BK101.out) hkp (fun hs_ => (fun e_ => (Kd.R_ne HO116.out BK101.out (by decide)) e_) hs_)); have n1_ := Aside0.mk (Kd.R_mono (ok' := fun k_ => some k_ ≠ (.slice Ao41 t114.length co41 : Value).ownBlock ∧ some k_ ≠ (.slice Ao50 t126.length co50 : Value).ownBlock) (Kd.R_keptB (HO106.out) hkp (fun k_ hk_ hs_ => (hk_.1.2) hs_)) (fun k_ hk_ => ⟨hk_.1.1.2, hk_.1.2⟩)); have n2_ := Aside0.mk (Kd.R_mono (ok' := fun k_ => some k_ ≠ (.slice Ao47 t110.length co47 : Value).ownBlock ∧ some k_ ≠ (.slice Ao44 t118.length co44 : Value).ownBlock ∧ some k_ ≠ (.slice Ao46 t121.length co46 : Value).ownBlock ∧ some k_ ≠ (.slice Ao53 t130.length co53 : Value).ownBlock) (Kd.R_keptB ((Kd.R_apart' HO109.out (Kd.R_typed HO116.out) (by decide))) hkp (fun k_ hk_ hs_ => (hk_.2) hs_)) (fun k_ hk_ => ⟨hk_.1.1.1.1.1.2, hk_.1.1.1.1.2, hk_.1.1.1.2, hk_.1.1.2⟩)); have n3_ := Aside0.mk (Kd.R_mono (ok' := fun k_ => some k_ ≠ (.slice Ao34 t107.length co34 : Value).ownBlock ∧ some k_ ≠ (.slice Ao44 t118.length co44 : Value).ownBlock ∧ some k_ ≠ (.slice Ao46 t121.length co46 : Value).ownBlock ∧ some k_ ≠ (.slice Ao53 t130.length co53 : Value).ownBlock) (Kd.R_keptB ((Kd.R_apart' HO112.out (Kd.R_typed HO116.out) (by decide))) hkp (fun k_ hk_ hs_ => (hk_.2) hs_)) (fun k_ hk_ => ⟨hk_.1.1.1.1.1.2, hk_.1.1.1.1.2, hk_.1.1.1.2, hk_.1.1.2⟩)); have n4_ := Aside0.mk (Kd.R_reok rfl hy0 (fun k_ e_ => HO116.out.1 k_ e_)); have n5_ := Aside0.mk (blk_kept (by (with_reducible repeat (first | refine blk_drewN ?_ _ | refine blk_drew ?_ | refine blk_alloc ?_ _)); exact BK117.out) hkp (fun hs_ => (fun e_ => (Kd.R_ne HO116.out BK117.out (by decide)) e_) hs_)); have n6_ := Aside0.mk (Kd.R_mono (ok' := fun k_ => some k_ ≠ (.slice Ao34 t107.length co34 : Value).ownBlock ∧ some k_ ≠ (.slice Ao47 t110.length co47 : Value).ownBlock ∧ some k_ ≠ (.slice Ao46 t121.length co46 : Value).ownBlock ∧ some k_ ≠ (.slice Ao53 t130.length co53 : Value).ownBlock) (Kd.R_keptB ((Kd.R_apart' HO120.out (Kd.R_typed HO116.out) (by decide))) hkp (fun k_ hk_ hs_ => (hk_.2) hs_)) (fun k_ hk_ => ⟨hk_.1.1.1.1.1.2, hk_.1.1.1.1.2, hk_.1.1.1.2, hk_.1.1.2⟩)); have n7_ := Aside0.mk (Kd.R_mono (ok' := fun k_ => some k_ ≠ (.slice Ao34 t107.length co34 : Value).ownBlock ∧ some k_ ≠ (.slice Ao47 t110.length co47 : Value).ownBlock ∧ some k_ ≠ (.slice Ao44 t118.length co44 : Value).ownBlock ∧ some k_ ≠ (.slice Ao53 t130.length co53 : Value).ownBlock) (Kd.R_keptB ((Kd.R_apart' HO123.out (Kd.R_typed HO116.out) (by decide))) hkp (fun k_ hk_ hs_ => (hk_.2) hs_)) (fun k_ hk_ => ⟨hk_.1.1.1.1.1.2, hk_.1.1.1.1.2, hk_.1.1.1.2, hk_.1.1.2⟩)); have n8_ := Aside0.mk (Kd.R_mono (ok' := fun k_ => some k_ ≠ (.slice Ao33 t104.length co33 : Value).ownBlock ∧ some k_ ≠ (.slice Ao41 t114.length co41 : Value).ownBlock) (Kd.R_keptB (HO128.out) hkp (fun k_ hk_ hs_ => (hk_.2) hs_)) (fun k_ hk_ => ⟨hk_.1.1.2, hk_.1.2⟩)); have n9_ := Aside0.mk (Kd.R_mono (ok' := fun k_ => some k_ ≠ (.slice Ao34 t107.length co34 : Value).ownBlock ∧ some k_ ≠ (.slice Ao47 t110.length co47 : Value).ownBlock ∧ some k_ ≠ (.slice Ao44 t118.length co44 : Value).ownBlock ∧ some k_ ≠ (.slice Ao46 t121.length co46 : Value).ownBlock) (Kd.R_keptB ((Kd.R_apart' HO132.out (Kd.R_typed HO116.out) (by decide))) hkp (fun k_ hk_ hs_ => (hk_.2) hs_)) (fun k_ hk_ => ⟨hk_.1.1.1.1.1.2, hk_.1.1.1.1.2, hk_.1.1.1.2, hk_.1.1.2⟩)); have n10_ := Aside0.mk (hb); clear BK101; clear HO106; clear HO109; clear HO112; clear HO116; clear BK117; clear HO120; clear HO123; clear HO128; clear HO132; clear HB; have BK101 := n0_; have HO106 := n1_; have HO109 := n2_; have HO112 := n3_; have HO116 := n4_; have BK117 := n5_; have HO120 := n6_; have HO123 := n7_; have HO128 := n8_; have HO132 := n9_; have HB := n10_; clear n0_ n1_ n2_ n3_ n4_ n5_ n6_ n7_ n8_ n9_ n10_; (try clear hb); (try clear hkp); (try clear hy0)) | ((with_reducible refine gate_callee (f := 51) rfl ?_); refine goesL_ (some 53) rfl rfl Try.func51 (by kernel_rfl) rfl #[.slice Ao44 t118.length co44, .int .i64 t134] rfl (by (try simp only [List.map_toArray, List.map_cons, List.map_nil]); first | done | rfl | (simp only [List.length_drop, List.length_take]; rfl)) ?_; (with_reducible refine (laws_markIntS.calls k (fun k_ => some k_ = (.slice Ao44 t118.length co44 : Value).ownBlock) (.slice Ao44 t118.length co44) t118 t134 t136 t137 w _ ?side1 ?side2 A25.out).mono ?_); (case side1 => repeat (first | (with_reducible first | exact HB.out | apply below_alloc | apply pw_below_drewN | apply below_drew1 | refine below_set ?_ GE101.out | refine below_set ?_ GE117.out) | exact HB.out)); (case side2 => exact Kd.R_tight rfl HO120.out); rintro e w56 ⟨rfl, hy0, hb, hkp⟩; refine ⟨_, rfl, ?_⟩; have n0_ := Aside0.mk (blk_kept (by (with_reducible repeat (first | refine blk_drewN ?_ _ | refine blk_drew ?_ | refine blk_alloc ?_ _)); exact BK101.out) hkp (fun hs_ => (fun e_ => (Kd.R_ne HO120.out BK101.out (by decide)) e_) hs_)); have n1_ := Aside0.mk (Kd.R_mono (ok' := fun k_ => some k_ ≠ (.slice Ao41 t114.length co41 : Value).ownBlock ∧ some k_ ≠ (.slice Ao50 t126.length co50 : Value).ownBlock) (Kd.R_keptB ((Kd.R_apart' HO106.out (Kd.R_typed HO120.out) (by decide))) hkp (fun k_ hk_ hs_ => (hk_.2) hs_)) (fun k_ hk_ => ⟨hk_.1.1.1, hk_.1.1.2⟩)); have n2_ := Aside0.mk (Kd.R_mono (ok' := fun k_ => some k_ ≠ (.slice Ao47 t110.length co47 : Value).ownBlock ∧ some k_ ≠ (.slice Ao44 t118.length co44 : Value).ownBlock ∧ some k_ ≠ (.slice Ao46 t121.length co46 : Value).ownBlock ∧ some k_ ≠ (.slice Ao53 t130.length co53 : Value).ownBlock) (Kd.R_keptB (HO109.out) hkp (fun k_ hk_ hs_ => (hk_.2.1) hs_)) (fun k_ hk_ => ⟨hk_.1.1, hk_.1.2.1, hk_.1.2.2.1, hk_.1.2.2.2⟩)); have n3_ := Aside0.mk (Kd.R_mono (ok' := fun k_ => some k_ ≠ (.slice Ao34 t107.length co34 : Value).ownBlock ∧ some k_ ≠ (.slice Ao44 t118.length co44 : Value).ownBlock ∧ some k_ ≠ (.slice Ao46 t121.length co46 : Value).ownBlock ∧ some k_ ≠ (.slice Ao53 t130.length co53 : Value).ownBlock) (Kd.R_keptB (HO112.out) hkp (fun k_ hk_ hs_ => (hk_.2.1) hs_)) (fun k_ hk_ => ⟨hk_.1.1, hk_.1.2.1, hk_.1.2.2.1, hk_.1.2.2.2⟩)); have n4_ := Aside0.mk (Kd.R_mono (ok' := fun k_ => some k_ ≠ (.slice Ao33 t104.length co33 : Value).ownBlock ∧ some k_ ≠ (.slice Ao50 t126.length co50 : Value).ownBlock) (Kd.R_keptB ((Kd.R_apart' HO116.out (Kd.R_typed HO120.out) (by decide))) hkp (fun k_ hk_ hs_ => (hk_.2) hs_)) (fun k_ hk_ => ⟨hk_.1.1.1.2, hk_.1.1.2⟩)); have n5_ := Aside0.mk (blk_kept (by (with_reducible repeat (first | refine blk_drewN ?_ _ | refine blk_drew ?_ | refine blk_alloc ?_ _)); exact BK117.out) hkp (fun hs_ => (fun e_ => (Kd.R_ne HO120.out BK117.out (by decide)) e_) hs_)); have n6_ := Aside0.mk (Kd.R_reok rfl hy0 (fun k_ e_ => HO120.out.1 k_ e_)); have n7_ := Aside0.mk (Kd.R_mono (ok' := fun k_ => some k_ ≠ (.slice Ao34 t107.length co34 : Value).ownBlock ∧ some k_ ≠ (.slice Ao47 t110.length co47 : Value).ownBlock ∧ some k_ ≠ (.slice Ao44 t118.length co44 : Value).ownBlock ∧ some k_ ≠ (.slice Ao53 t130.length co53 : Value).ownBlock) (Kd.R_keptB (HO123.out) hkp (fun k_ hk_ hs_ => (hk_.2.2.1) hs_)) (fun k_ hk_ => ⟨hk_.1.1, hk_.1.2.1, hk_.1.2.2.1, hk_.1.2.2.2⟩)); have n8_ := Aside0.mk (Kd.R_mono (ok' := fun k_ => some k_ ≠ (.slice Ao33 t104.length co33 : Value).ownBlock ∧ some k_ ≠ (.slice Ao41 t114.length co41 : Value).ownBlock) (Kd.R_keptB ((Kd.R_apart' HO128.out (Kd.R_typed HO120.out) (by decide))) hkp (fun k_ hk_ hs_ => (hk_.2) hs_)) (fun k_ hk_ => ⟨hk_.1.1.1, hk_.1.1.2⟩)); have n9_ := Aside0.mk (Kd.R_mono (ok' := fun k_ => some k_ ≠ (.slice Ao34 t107.length co34 : Value).ownBlock ∧ some k_ ≠ (.slice Ao47 t110.length co47 : Value).ownBlock ∧ some k_ ≠ (.slice Ao44 t118.length co44 : Value).ownBlock ∧ some k_ ≠ (.slice Ao46 t121.length co46 : Value).ownBlock) (Kd.R_keptB (HO132.out) hkp (fun k_ hk_ hs_ => (hk_.2.2.1) hs_)) (fun k_ hk_ => ⟨hk_.1.1, hk_.1.2.1, hk_.1.2.2.1, hk_.1.2.2.2⟩)); have n10_ := Aside0.mk (hb); clear BK101; clear HO106; clear HO109; clear HO112; clear HO116; clear BK117; clear HO120; clear HO123; clear HO128; clear HO132; clear HB; have BK101 := n0_; have HO106 := n1_; have HO109 := n2_; have HO112 := n3_; have HO116 := n4_; have BK117 := n5_; have HO120 := n6_; have HO123 := n7_; have HO128 := n8_; have HO132 := n9_; have HB := n10_; clear n0_ n1_ n2_ n3_ n4_ n5_ n6_ n7_ n8_ n9_ n10_; (try clear hb); (try clear hkp); (try clear hy0)))
      (try simp only [Act.put, List.setIfInBounds_toArray, List.set_cons_zero, List.set_cons_succ])
      go_cut [61] (fun v61 wc => ∃ (kq : Nat) (x61_25 : Bool), v61 = .bool x61_25 ∧ Aside0 (laws_FnExactManyServe.j0 kq l1 t110 t121 x61_25 a0_0 l0_1 = some true) ∧ Aside0 (kq ≤ k) ∧ Aside0 (Kd.R (Kd.int .i64) 3 wc w.heap.size (fun k_ => some k_ ≠ ((.slice Ao46 t121.length co46) : Value).ownBlock) (.slice Ao47 t110.length co47) t110) ∧ Aside0 (Kd.R (Kd.int .i64) 3 wc w.heap.size (fun k_ => some k_ ≠ ((.slice Ao47 t110.length co47) : Value).ownBlock) (.slice Ao46 t121.length co46) t121) ∧ Aside0 (Kd.R k33 33 wc w.heap.size (fun _ => True) (.slice Ao41 t114.length co41) t135) ∧ Aside0 (wc.heap[gb101]? = some (.cells #[.int .i64 a0_0, (.slice A0_1 l0_1.length c0_1)] 44 (0, 0))) ∧ Aside0 (wc.heap[gb117]? = some (.cells #[.int .i64 t113, (.slice Ao41 t114.length co41)] 25 (0, 0))) ∧ Aside0 (Below w.heap.size w wc))
      case first =>
       have H := HC26.out
       clear HC26
       by_cases c57 : t136 < 0
       ·
        rw [if_pos c57] at H
        have c57b0 : decide (t136 < 0) = true := decide_eq_true c57
        clear c57
        (first | rw [c57b0] | (simp only [i64_w, i32_w]; rw [c57b0]) | skip)
        have H' := Aside0.mk H
        clear H
        go_wp2
        go_meet
        case rel => exact ⟨_, (true), (by first | rfl | (simp; done) | (simp [*]; done)), H', ⟨by first | omega | exact Nat.le_refl _⟩, ⟨by (with_reducible repeat (first | apply Kd.R_alloc | apply Kd.R_drewN | apply Kd.R_drew)); exact Kd.R_mono HO112.out (fun _ hk => hk.2.2.1)⟩, ⟨by (with_reducible repeat (first | apply Kd.R_alloc | apply Kd.R_drewN | apply Kd.R_drew)); exact Kd.R_mono HO123.out (fun _ hk => hk.2.1)⟩, ⟨by (with_reducible repeat (first | apply Kd.R_alloc | apply Kd.R_drewN | apply Kd.R_drew)); exact Kd.R_mono HO116.out (fun _ hk => trivial)⟩, ⟨by (with_reducible repeat (first | refine blk_drewN ?_ _ | refine blk_drew ?_ | refine blk_alloc ?_ _)); exact BK101.out⟩, ⟨by (with_reducible repeat (first | refine blk_drewN ?_ _ | refine blk_drew ?_ | refine blk_alloc ?_ _)); exact BK117.out⟩, ⟨by repeat (first | (with_reducible first | exact HB.out | apply below_alloc | apply pw_below_drewN | apply below_drew1 | refine below_set ?_ GE101.out | refine below_set ?_ GE117.out) | exact HB.out)⟩⟩
       ·
        rw [if_neg c57] at H
        have c57b0 : decide (t136 < 0) = false := decide_eq_false c57
        clear c57
        (first | rw [c57b0] | (simp only [i64_w, i32_w]; rw [c57b0]) | skip)
        replace H := Option.bind_eq_some_iff.mp H
        obtain ⟨t138, A580, H⟩ := H
        replace H : (laws_FnExactManyServe.j0 k l1 t110 t121 (!t138) a0_0 l0_1) = some true := H
        have A58 := Aside0.mk A580
        clear A580
        have H' := Aside0.mk H
        clear H
        go_wp2_with (first | (go_at_call 48; (with_reducible refine (laws_eqIntS.calls k _ _ t121 _ _ t110 t138 _ ?side1 ?side2 ?side3 ?side4 A58.out).mono ?_); (case side1 => repeat (first | exact (Kd.R_reads' HO123.out).2.2 | (with_reducible refine Kd.C_alloc ?_ _) | (with_reducible refine Kd.C_drewN ?_ _) | (with_reducible refine Kd.C_drew ?_))); (case side2 => exact (Kd.R_reads' HO123.out).2.1); (case side3 => repeat (first | exact (Kd.R_reads' HO112.out).2.2 | (with_reducible refine Kd.C_alloc ?_ _) | (with_reducible refine Kd.C_drewN ?_ _) | (with_reducible refine Kd.C_drew ?_))); (case side4 => exact (Kd.R_reads' HO112.out).2.1); rintro e w' ⟨rfl, ⟨nd, rfl⟩⟩))
        go_meet
        case rel => exact ⟨_, (!t138), (by first | rfl | (simp; done) | (simp [*]; done)), H', ⟨by first | omega | exact Nat.le_refl _⟩, ⟨by (with_reducible repeat (first | apply Kd.R_alloc | apply Kd.R_drewN | apply Kd.R_drew)); exact Kd.R_mono HO112.out (fun _ hk => hk.2.2.1)⟩, ⟨by (with_reducible repeat (first | apply Kd.R_alloc | apply Kd.R_drewN | apply Kd.R_drew)); exact Kd.R_mono HO123.out (fun _ hk => hk.2.1)⟩, ⟨by (with_reducible repeat (first | apply Kd.R_alloc | apply Kd.R_drewN | apply Kd.R_drew)); exact Kd.R_mono HO116.out (fun _ hk => trivial)⟩, ⟨by (with_reducible repeat (first | refine blk_drewN ?_ _ | refine blk_drew ?_ | refine blk_alloc ?_ _)); exact BK101.out⟩, ⟨by (with_reducible repeat (first | refine blk_drewN ?_ _ | refine blk_drew ?_ | refine blk_alloc ?_ _)); exact BK117.out⟩, ⟨by repeat (first | (with_reducible first | exact HB.out | apply below_alloc | apply pw_below_drewN | apply below_drew1 | refine below_set ?_ GE101.out | refine below_set ?_ GE117.out) | exact HB.out)⟩⟩
      case rest =>
       clear HC26
       try clear c1
       try clear c2
       try clear p2
       try clear c3
       try clear c3b0
       try clear c3b1
       try clear c4
       try clear c5
       try clear c6
       try clear c6b0
       try clear c7
       try clear c17
       try clear c20
       try clear c23
       try clear c24
       try clear c39
       try clear c46
       try clear c47
       try clear c48
       try clear c49
       try clear c50
       try clear c51
       try clear c53
       try clear c57
       try clear c57b0
       try clear hcz28_0
       try clear hcz28_1
       try clear hcz30_0
       try clear hcz30_1
       try clear hcz36_0
       try clear hcz36_1
       try clear hcz40_0
       try clear hcz40_1
       try clear hcz43_0
       try clear hcz43_1
       try clear hcz54_0
       try clear hcz54_1
       try clear hcz8_0
       try clear hcz8_1
       try clear hfz28_0
       try clear hfz28_1
       try clear hfz30_0
       try clear hfz30_1
       try clear hfz36_0
       try clear hfz36_1
       try clear hfz40_0
       try clear hfz40_1
       try clear hfz43_0
       try clear hfz43_1
       try clear hfz54_0
       try clear hfz54_1
       try clear hfz8_0
       try clear hfz8_1
       obtain ⟨kq, x61_25, rfl, HA, HJ25, HO_6, HO_9, HO_118001, BK101, BK117, HB⟩ := hcut
       have hl118001_25 := (Kd.R_reads' HO_118001.out).1
       rw [hl118001_25] at HO_118001
       (try simp only [hl118001_25])
       (try simp only [hl118001_25] at BK101)
       (try simp only [hl118001_25] at BK117)
       (try simp only [hl118001_25] at HO_6)
       (try simp only [hl118001_25] at HO_9)
       cases kq with
       | zero => exact absurd HA.out (by simp [laws_FnExactManyServe.j0])
       | succ kj25 =>
        have H := HA.out
        clear HA
        simp only [laws_FnExactManyServe.j0] at H
        by_cases c59 : x61_25 = true
        ·
         subst c59
         have H1 : (some false) = some true := by rw [if_pos rfl] at H; exact H
         clear H
         have H := H1
         clear H1
         exact absurd H (by simp)
        ·
         replace c59 := Bool.eq_false_iff.mpr c59
         subst c59
         have H1 : ((laws_markIntS.f kj25 t121 1).bind fun bt139 => ((laws_heldIntS.f kj25 bt139.2 1).bind fun t141 => (if t141 < 0 then (some false) else (if t141 = bt139.1 then ((laws_toNet.f kj25 a0_0 l0_1).bind fun bt142 => ((laws_toIntS.f kj25 l1).bind fun t146 => ((impl_ManyServe.f kj25 bt142.1 bt142.2 t146).bind fun t149 => ((laws_eqIntS.f kj25 t149 t110).bind fun t152 => (if t152 = true then ((laws_heldIntS.f kj25 bt139.2 1).bind fun t153 => (if t153 < 0 then (some false) else (if t153 = bt139.1 then (some true) else (some false)))) else (some false)))))) else (some false))))) = some true := by rw [if_neg (show ¬ (false = true) by decide)] at H; exact H
         clear H
         have H := H1
         clear H1
         replace H := Option.bind_eq_some_iff.mp H
         obtain ⟨⟨t139, t140⟩, A600, H⟩ := H
         replace H : ((laws_heldIntS.f kj25 t140 1).bind fun t141 => (if t141 < 0 then (some false) else (if t141 = t139 then ((laws_toNet.f kj25 a0_0 l0_1).bind fun bt142 => ((laws_toIntS.f kj25 l1).bind fun t146 => ((impl_ManyServe.f kj25 bt142.1 bt142.2 t146).bind fun t149 => ((laws_eqIntS.f kj25 t149 t110).bind fun t152 => (if t152 = true then ((laws_heldIntS.f kj25 t140 1).bind fun t153 => (if t153 < 0 then (some false) else (if t153 = t139 then (some true) else (some false)))) else (some false)))))) else (some false)))) = some true := H
         have A60 := Aside0.mk A600
         clear A600
         replace H := Option.bind_eq_some_iff.mp H
         obtain ⟨t141, A610, H⟩ := H
         replace H : (if t141 < 0 then (some false) else (if t141 = t139 then ((laws_toNet.f kj25 a0_0 l0_1).bind fun bt142 => ((laws_toIntS.f kj25 l1).bind fun t146 => ((impl_ManyServe.f kj25 bt142.1 bt142.2 t146).bind fun t149 => ((laws_eqIntS.f kj25 t149 t110).bind fun t152 => (if t152 = true then ((laws_heldIntS.f kj25 t140 1).bind fun t153 => (if t153 < 0 then (some false) else (if t153 = t139 then (some true) else (some false)))) else (some false)))))) else (some false))) = some true := H
         have A61 := Aside0.mk A610
         clear A610
         by_cases c62 : t141 < 0
         ·
          rw [if_pos c62] at H
          have c62b0 : decide (t141 < 0) = true := decide_eq_true c62
          clear c62
          exact absurd H (by simp)
         ·
          rw [if_neg c62] at H
          have c62b0 : decide (t141 < 0) = false := decide_eq_false c62
          clear c62
          by_cases c63 : t141 = t139
          ·
           rw [if_pos c63] at H
           have c63b0 : (t141 == t139) = true := beq_iff_eq.mpr c63
           have c63b1 : (t141 != t139) = false := bne_eq_false_iff_eq.mpr c63
           clear c63
           replace H := Option.bind_eq_some_iff.mp H
           obtain ⟨⟨t142, t143⟩, A640, H⟩ := H
           replace H : ((laws_toIntS.f kj25 l1).bind fun t146 => ((impl_ManyServe.f kj25 t142 t143 t146).bind fun t149 => ((laws_eqIntS.f kj25 t149 t110).bind fun t152 => (if t152 = true then ((laws_heldIntS.f kj25 t140 1).bind fun t153 => (if t153 < 0 then (some false) else (if t153 = t139 then (some true) else (some false)))) else (some false))))) = some true := H
           have A64 := Aside0.mk A640
           clear A640
           replace H := Option.bind_eq_some_iff.mp H
           obtain ⟨t146, A650, H⟩ := H
           replace H : ((impl_ManyServe.f kj25 t142 t143 t146).bind fun t149 => ((laws_eqIntS.f kj25 t149 t110).bind fun t152 => (if t152 = true then ((laws_heldIntS.f kj25 t140 1).bind fun t153 => (if t153 < 0 then (some false) else (if t153 = t139 then (some true) else (some false)))) else (some false)))) = some true := H
           have A65 := Aside0.mk A650
           clear A650
           replace H := Option.bind_eq_some_iff.mp H
           obtain ⟨t149, A660, H⟩ := H
           replace H : ((laws_eqIntS.f kj25 t149 t110).bind fun t152 => (if t152 = true then ((laws_heldIntS.f kj25 t140 1).bind fun t153 => (if t153 < 0 then (some false) else (if t153 = t139 then (some true) else (some false)))) else (some false))) = some true := H
           have A66 := Aside0.mk A660
           clear A660
           replace H := Option.bind_eq_some_iff.mp H
           obtain ⟨t152, A670, H⟩ := H
           replace H : (if t152 = true then ((laws_heldIntS.f kj25 t140 1).bind fun t153 => (if t153 < 0 then (some false) else (if t153 = t139 then (some true) else (some false)))) else (some false)) = some true := H
           have A67 := Aside0.mk A670
           clear A670
           by_cases c68 : t152 = true
           ·
            subst c68
            have H1 : ((laws_heldIntS.f kj25 t140 1).bind fun t153 => (if t153 < 0 then (some false) else (if t153 = t139 then (some true) else (some false)))) = some true := by rw [if_pos rfl] at H; exact H
            clear H
            have H := H1
            clear H1
            replace H := Option.bind_eq_some_iff.mp H
            obtain ⟨t153, A690, H⟩ := H
            replace H : (if t153 < 0 then (some false) else (if t153 = t139 then (some true) else (some false))) = some true := H
            have A69 := Aside0.mk A690
            clear A690
            by_cases c70 : t153 < 0
            ·
             rw [if_pos c70] at H
             have c70b0 : decide (t153 < 0) = true := decide_eq_true c70
             clear c70
             exact absurd H (by simp)
            ·
             rw [if_neg c70] at H
             have c70b0 : decide (t153 < 0) = false := decide_eq_false c70
             clear c70
             by_cases c71 : t153 = t139
             ·
              rw [if_pos c71] at H
              have c71b0 : (t153 == t139) = true := beq_iff_eq.mpr c71
              have c71b1 : (t153 != t139) = false := bne_eq_false_iff_eq.mpr c71
              clear c71
              clear H
              go_wp2_with (first | ((with_reducible refine gate_callee (f := 51) rfl ?_); refine goesL_ (some 64) rfl rfl Try.func51 (by kernel_rfl) rfl #[.slice Ao46 t121.length co46, .int .i64 1] rfl (by (try simp only [List.map_toArray, List.map_cons, List.map_nil]); first | done | rfl | (simp only [List.length_drop, List.length_take]; rfl)) ?_; (with_reducible refine (laws_markIntS.calls kj25 (fun k_ => some k_ = (.slice Ao46 t121.length co46 : Value).ownBlock) (.slice Ao46 t121.length co46) t121 1 t139 t140 w _ ?side1 ?side2 A60.out).mono ?_); (case side1 => repeat (first | (with_reducible first | exact HB.out | apply below_alloc | apply pw_below_drewN | apply below_drew1 | refine below_set ?_ GE101.out | refine below_set ?_ GE117.out) | exact HB.out)); (case side2 => exact Kd.R_tight rfl HO_9.out); rintro e w72 ⟨rfl, hy0, hb, hkp⟩; refine ⟨_, rfl, ?_⟩; have n0_ := Aside0.mk (Kd.R_mono (ok' := fun k_ => some k_ ≠ (.slice Ao46 t121.length co46 : Value).ownBlock) (Kd.R_keptB (HO_6.out) hkp (fun k_ hk_ hs_ => (hk_) hs_)) (fun k_ hk_ => hk_.1)); have n1_ := Aside0.mk (Kd.R_reok rfl hy0 (fun k_ e_ => HO_9.out.1 k_ e_)); have n2_ := Aside0.mk (Kd.R_mono (ok' := fun k_ => True) (Kd.R_keptB ((Kd.R_apart' HO_118001.out (Kd.R_typed HO_9.out) (by decide))) hkp (fun k_ hk_ hs_ => (hk_.2) hs_)) (fun k_ hk_ => trivial)); have n3_ := Aside0.mk (blk_kept (by (with_reducible repeat (first | refine blk_drewN ?_ _ | refine blk_drew ?_ | refine blk_alloc ?_ _)); exact BK101.out) hkp (fun hs_ => (fun e_ => (Kd.R_ne HO_9.out BK101.out (by decide)) e_) hs_)); have n4_ := Aside0.mk (blk_kept (by (with_reducible repeat (first | refine blk_drewN ?_ _ | refine blk_drew ?_ | refine blk_alloc ?_ _)); exact BK117.out) hkp (fun hs_ => (fun e_ => (Kd.R_ne HO_9.out BK117.out (by decide)) e_) hs_)); have n5_ := Aside0.mk (hb); clear HO_6; clear HO_9; clear HO_118001; clear BK101; clear BK117; clear HB; have HO_6 := n0_; have HO_9 := n1_; have HO_118001 := n2_; have BK101 := n3_; have BK117 := n4_; have HB := n5_; clear n0_ n1_ n2_ n3_ n4_ n5_; (try clear hb); (try clear hkp); (try clear hy0)) | ((with_reducible refine gate_callee (f := 52) rfl ?_); refine goesL_ (some 67) rfl rfl Try.func52 (by kernel_rfl) rfl #[.slice Ao46 t140.length co46, .int .i64 1] rfl (by (try simp only [List.map_toArray, List.map_cons, List.map_nil]); first | done | (rw [show t140.length = t121.length from (Kd.R_reads' HO_9.out).1.symm] <;> rfl) | rfl | (simp only [List.length_drop, List.length_take]; rfl)) ?_; (with_reducible refine (laws_heldIntS.calls kj25 _ _ t140 1 t141 _ ?side1 ?side2 A61.out).mono ?_); (case side1 => repeat (first | exact (Kd.R_reads' HO_9.out).2.2 | (with_reducible refine Kd.C_alloc ?_ _) | (with_reducible refine Kd.C_drewN ?_ _) | (with_reducible refine Kd.C_drew ?_))); (case side2 => rw [show t140.length = t121.length from (Kd.R_reads' HO_9.out).1.symm]; exact (Kd.R_reads' HO_9.out).2.1); rintro e w' ⟨rfl, ⟨nd, rfl⟩⟩; refine ⟨_, rfl, ?_⟩; have hnb73 := NB101_117.out; have hnc73 := NB117_101.out; have hcz74_0 : w72.cell? ⟨gb101, 0, none⟩ = some (.int .i64 a0_0) := (blk_cell BK101.out 0).trans rfl; have hcz74_1 : w72.cell? ⟨gb101, 1, none⟩ = some (.slice A0_1 l0_1.length c0_1) := (blk_cell BK101.out 1).trans rfl; have hfz74_0 := blk_frozen BK101.out 0; have hfz74_1 := blk_frozen BK101.out 1) | ((with_reducible refine gate_callee (f := 47) rfl ?_); refine goesL_ (some 74) rfl rfl Try.func47 (by kernel_rfl) rfl #[.agg #[.int .i64 a0_0, .slice A0_1 l0_1.length c0_1]] rfl (by (try simp only [List.map_toArray, List.map_cons, List.map_nil]); first | done | rfl | (simp only [List.length_drop, List.length_take]; rfl)) ?_; (with_reducible refine (laws_toNet.calls kj25 a0_0 _ _ l0_1 t142 t143 _ ?side1 ?side2 A64.out).mono ?_); (case side1 => repeat (first | exact (Kd.C_below HR0_1.out (by repeat (first | (with_reducible first | exact HB.out | apply below_alloc | apply pw_below_drewN | apply below_drew1 | refine below_set ?_ GE101.out | refine below_set ?_ GE117.out) | exact HB.out))) | (with_reducible refine Kd.C_alloc ?_ _) | (with_reducible refine Kd.C_drewN ?_ _) | (with_reducible refine Kd.C_drew ?_))); (case side2 => exact HC0_1.out); rintro e w75 ⟨v144, rfl, ho0, hb⟩; refine ⟨_, rfl, ?_⟩; have n0_ := Aside0.mk (Kd.R_below (by (with_reducible repeat (first | apply Kd.R_alloc | apply Kd.R_drewN | apply Kd.R_drew)); exact HO_6.out) hb); have n1_ := Aside0.mk (Kd.R_below (by (with_reducible repeat (first | apply Kd.R_alloc | apply Kd.R_drewN | apply Kd.R_drew)); exact HO_9.out) hb); have n2_ := Aside0.mk (Kd.R_elder' (by (with_reducible repeat (first | apply Kd.R_alloc | apply Kd.R_drewN | apply Kd.R_drew)); exact HO_118001.out) (Kd.R_base ho0) hb); have n3_ := Aside0.mk (Kd.R_lower (Kd.R_new' ho0 (Kd.R_lt (by (with_reducible repeat (first | apply Kd.R_alloc | apply Kd.R_drewN | apply Kd.R_drew)); exact HO_118001.out))) (below_size (by repeat (first | (with_reducible first | exact HB.out | apply below_alloc | apply pw_below_drewN | apply below_drew1 | refine below_set ?_ GE101.out | refine below_set ?_ GE117.out) | exact HB.out)))); have n4_ := Aside0.mk (blk_below (g := gb101) (o := .cells #[.int .i64 a0_0, .slice A0_1 l0_1.length c0_1] 44 (0, 0)) (by (with_reducible repeat (first | refine blk_drewN ?_ _ | refine blk_drew ?_ | refine blk_alloc ?_ _)); exact BK101.out) hb); have n5_ := Aside0.mk (blk_below (g := gb117) (o := .cells #[.int .i64 t113, .slice Ao41 t135.length co41] 25 (0, 0)) (by (with_reducible repeat (first | refine blk_drewN ?_ _ | refine blk_drew ?_ | refine blk_alloc ?_ _)); exact BK117.out) hb); have n6_ := Aside0.mk (below_step (by repeat (first | (with_reducible first | exact HB.out | apply below_alloc | apply pw_below_drewN | apply below_drew1 | refine below_set ?_ GE101.out | refine below_set ?_ GE117.out) | exact HB.out)) hb); clear HO_6; clear HO_9; clear HO_118001; clear BK101; clear BK117; clear HB; have HO_6 := n0_; have HO_9 := n1_; have HO_118001 := n2_; have HO145 := n3_; have BK101 := n4_; have BK117 := n5_; have HB := n6_; clear n0_ n1_ n2_ n3_ n4_ n5_ n6_; (try clear hb); (try clear hb2); (try clear hk); (try clear hi); (try clear ho0)) | ((with_reducible refine gate_callee (f := 53) rfl ?_); refine goesL_ (some 76) rfl rfl Try.func53 (by kernel_rfl) rfl #[.slice A1 l1.length c1] rfl (by (try simp only [List.map_toArray, List.map_cons, List.map_nil]); first | done | rfl | (simp only [List.length_drop, List.length_take]; rfl)) ?_; (with_reducible refine (laws_toIntS.calls kj25 _ _ l1 t146 _ ?side1 ?side2 A65.out).mono ?_); (case side1 => repeat (first | exact (Kd.C_below HR1.out HB.out) | (with_reducible refine Kd.C_alloc ?_ _) | (with_reducible refine Kd.C_drewN ?_ _) | (with_reducible refine Kd.C_drew ?_))); (case side2 => exact HC1.out); rintro e w76 ⟨v147, rfl, ho0, hb⟩; refine ⟨_, rfl, ?_⟩; have n0_ := Aside0.mk (Kd.R_elder' (by (with_reducible repeat (first | apply Kd.R_alloc | apply Kd.R_drewN | apply Kd.R_drew)); exact HO_6.out) (Kd.R_base ho0) hb); have n1_ := Aside0.mk (Kd.R_elder' (by (with_reducible repeat (first | apply Kd.R_alloc | apply Kd.R_drewN | apply Kd.R_drew)); exact HO_9.out) (Kd.R_base ho0) hb); have n2_ := Aside0.mk (Kd.R_below (by (with_reducible repeat (first | apply Kd.R_alloc | apply Kd.R_drewN | apply Kd.R_drew)); exact HO_118001.out) hb); have n3_ := Aside0.mk (Kd.R_below (by (with_reducible repeat (first | apply Kd.R_alloc | apply Kd.R_drewN | apply Kd.R_drew)); exact HO145.out) hb); have n4_ := Aside0.mk (Kd.R_lower (Kd.R_new' (Kd.R_new' ho0 (Kd.R_lt (by (with_reducible repeat (first | apply Kd.R_alloc | apply Kd.R_drewN | apply Kd.R_drew)); exact HO_6.out))) (Kd.R_lt (by (with_reducible repeat (first | apply Kd.R_alloc | apply Kd.R_drewN | apply Kd.R_drew)); exact HO_9.out))) (below_size (by repeat (first | (with_reducible first | exact HB.out | apply below_alloc | apply pw_below_drewN | apply below_drew1 | refine below_set ?_ GE101.out | refine below_set ?_ GE117.out) | exact HB.out)))); have n5_ := Aside0.mk (blk_below (g := gb101) (o := .cells #[.int .i64 a0_0, .slice A0_1 l0_1.length c0_1] 44 (0, 0)) (by (with_reducible repeat (first | refine blk_drewN ?_ _ | refine blk_drew ?_ | refine blk_alloc ?_ _)); exact BK101.out) hb); have n6_ := Aside0.mk (blk_below (g := gb117) (o := .cells #[.int .i64 t113, .slice Ao41 t135.length co41] 25 (0, 0)) (by (with_reducible repeat (first | refine blk_drewN ?_ _ | refine blk_drew ?_ | refine blk_alloc ?_ _)); exact BK117.out) hb); have n7_ := Aside0.mk (below_step (by repeat (first | (with_reducible first | exact HB.out | apply below_alloc | apply pw_below_drewN | apply below_drew1 | refine below_set ?_ GE101.out | refine below_set ?_ GE117.out) | exact HB.out)) hb); clear HO_6; clear HO_9; clear HO_118001; clear HO145; clear BK101; clear BK117; clear HB; have HO_6 := n0_; have HO_9 := n1_; have HO_118001 := n2_; have HO145 := n3_; have HO148 := n4_; have BK101 := n5_; have BK117 := n6_; have HB := n7_; clear n0_ n1_ n2_ n3_ n4_ n5_ n6_ n7_; (try clear hb); (try clear hb2); (try clear hk); (try clear hi); (try clear ho0); obtain ⟨Ao77, co77, eo77⟩ := Kd.R_slice HO145.out; subst eo77; obtain ⟨Ao78, co78, eo78⟩ := Kd.R_slice HO148.out; subst eo78) | ((with_reducible refine gate_callee (f := 76) rfl ?_); refine goesL_ (some 77) rfl rfl Try.func76 (by kernel_rfl) rfl #[.agg #[.int .i64 t142, .slice Ao77 t143.length co77], .slice Ao78 t146.length co78] rfl (by (try simp only [List.map_toArray, List.map_cons, List.map_nil]); first | done | rfl | (simp only [List.length_drop, List.length_take]; rfl)) ?_; (with_reducible refine (impl_ManyServe.calls kj25 t142 _ _ t143 _ _ t146 t149 _ ?side1 ?side2 ?side3 ?side4 A66.out).mono ?_); (case side1 => repeat (first | exact (Kd.R_reads' HO145.out).2.2 | (with_reducible refine Kd.C_alloc ?_ _) | (with_reducible refine Kd.C_drewN ?_ _) | (with_reducible refine Kd.C_drew ?_))); (case side2 => exact (Kd.R_reads' HO145.out).2.1); (case side3 => repeat (first | exact (Kd.R_reads' HO148.out).2.2 | (with_reducible refine Kd.C_alloc ?_ _) | (with_reducible refine Kd.C_drewN ?_ _) | (with_reducible refine Kd.C_drew ?_))); (case side4 => exact (Kd.R_reads' HO148.out).2.1); rintro e w79 ⟨v150, rfl, ho0, hb⟩; refine ⟨_, rfl, ?_⟩; have n0_ := Aside0.mk (Kd.R_elder' (by (with_reducible repeat (first | apply Kd.R_alloc | apply Kd.R_drewN | apply Kd.R_drew)); exact HO_6.out) (Kd.R_base ho0) hb); have n1_ := Aside0.mk (Kd.R_elder' (by (with_reducible repeat (first | apply Kd.R_alloc | apply Kd.R_drewN | apply Kd.R_drew)); exact HO_9.out) (Kd.R_base ho0) hb); have n2_ := Aside0.mk (Kd.R_below (by (with_reducible repeat (first | apply Kd.R_alloc | apply Kd.R_drewN | apply Kd.R_drew)); exact HO_118001.out) hb); have n3_ := Aside0.mk (Kd.R_below (by (with_reducible repeat (first | apply Kd.R_alloc | apply Kd.R_drewN | apply Kd.R_drew)); exact HO145.out) hb); have n4_ := Aside0.mk (Kd.R_elder' (by (with_reducible repeat (first | apply Kd.R_alloc | apply Kd.R_drewN | apply Kd.R_drew)); exact HO148.out) (Kd.R_base ho0) hb); have n5_ := Aside0.mk (Kd.R_lower (Kd.R_new' (Kd.R_new' (Kd.R_new' ho0 (Kd.R_lt (by (with_reducible repeat (first | apply Kd.R_alloc | apply Kd.R_drewN | apply Kd.R_drew)); exact HO_6.out))) (Kd.R_lt (by (with_reducible repeat (first | apply Kd.R_alloc | apply Kd.R_drewN | apply Kd.R_drew)); exact HO_9.out))) (Kd.R_lt (by (with_reducible repeat (first | apply Kd.R_alloc | apply Kd.R_drewN | apply Kd.R_drew)); exact HO148.out))) (below_size (by repeat (first | (with_reducible first | exact HB.out | apply below_alloc | apply pw_below_drewN | apply below_drew1 | refine below_set ?_ GE101.out | refine below_set ?_ GE117.out) | exact HB.out)))); have n6_ := Aside0.mk (blk_below (g := gb101) (o := .cells #[.int .i64 a0_0, .slice A0_1 l0_1.length c0_1] 44 (0, 0)) (by (with_reducible repeat (first | refine blk_drewN ?_ _ | refine blk_drew ?_ | refine blk_alloc ?_ _)); exact BK101.out) hb); have n7_ := Aside0.mk (blk_below (g := gb117) (o := .cells #[.int .i64 t113, .slice Ao41 t135.length co41] 25 (0, 0)) (by (with_reducible repeat (first | refine blk_drewN ?_ _ | refine blk_drew ?_ | refine blk_alloc ?_ _)); exact BK117.out) hb); have n8_ := Aside0.mk (below_step (by repeat (first | (with_reducible first | exact HB.out | apply below_alloc | apply pw_below_drewN | apply below_drew1 | refine below_set ?_ GE101.out | refine below_set ?_ GE117.out) | exact HB.out)) hb); clear HO_6; clear HO_9; clear HO_118001; clear HO145; clear HO148; clear BK101; clear BK117; clear HB; have HO_6 := n0_; have HO_9 := n1_; have HO_118001 := n2_; have HO145 := n3_; have HO148 := n4_; have HO151 := n5_; have BK101 := n6_; have BK117 := n7_; have HB := n8_; clear n0_ n1_ n2_ n3_ n4_ n5_ n6_ n7_ n8_; (try clear hb); (try clear hb2); (try clear hk); (try clear hi); (try clear ho0); obtain ⟨Ao80, co80, eo80⟩ := Kd.R_slice HO151.out; subst eo80) | ((with_reducible refine gate_callee (f := 48) rfl ?_); refine goesL_ (some 80) rfl rfl Try.func48 (by kernel_rfl) rfl #[.slice Ao80 t149.length co80, .slice Ao47 t110.length co47] rfl (by (try simp only [List.map_toArray, List.map_cons, List.map_nil]); first | done | rfl | (simp only [List.length_drop, List.length_take]; rfl)) ?_; (with_reducible refine (laws_eqIntS.calls kj25 _ _ t149 _ _ t110 true _ ?side1 ?side2 ?side3 ?side4 A67.out).mono ?_); (case side1 => repeat (first | exact (Kd.R_reads' HO151.out).2.2 | (with_reducible refine Kd.C_alloc ?_ _) | (with_reducible refine Kd.C_drewN ?_ _) | (with_reducible refine Kd.C_drew ?_))); (case side2 => exact (Kd.R_reads' HO151.out).2.1); (case side3 => repeat (first | exact (Kd.R_reads' HO_6.out).2.2 | (with_reducible refine Kd.C_alloc ?_ _) | (with_reducible refine Kd.C_drewN ?_ _) | (with_reducible refine Kd.C_drew ?_))); (case side4 => exact (Kd.R_reads' HO_6.out).2.1); rintro e w' ⟨rfl, ⟨nd, rfl⟩⟩; refine ⟨_, rfl, ?_⟩) | ((with_reducible refine gate_callee (f := 52) rfl ?_); refine goesL_ (some 84) rfl rfl Try.func52 (by kernel_rfl) rfl #[.slice Ao46 t140.length co46, .int .i64 1] rfl (by (try simp only [List.map_toArray, List.map_cons, List.map_nil]); first | done | (rw [show t140.length = t121.length from (Kd.R_reads' HO_9.out).1.symm] <;> rfl) | rfl | (simp only [List.length_drop, List.length_take]; rfl)) ?_; (with_reducible refine (laws_heldIntS.calls kj25 _ _ t140 1 t153 _ ?side1 ?side2 A69.out).mono ?_); (case side1 => repeat (first | exact (Kd.R_reads' HO_9.out).2.2 | (with_reducible refine Kd.C_alloc ?_ _) | (with_reducible refine Kd.C_drewN ?_ _) | (with_reducible refine Kd.C_drew ?_))); (case side2 => rw [show t140.length = t121.length from (Kd.R_reads' HO_9.out).1.symm]; exact (Kd.R_reads' HO_9.out).2.1); rintro e w' ⟨rfl, ⟨nd, rfl⟩⟩; refine ⟨_, rfl, ?_⟩))
              go_ret
              exact ⟨by first | rfl | (simp [errW_none, errW_some] <;> rfl) | (simp [*, errW_none, errW_some] <;> rfl) | exact congrArg (fun b_ => Ending.returned (Value.bool b_)) HE_.out, by repeat (first | (with_reducible first | exact HB.out | apply below_alloc | apply pw_below_drewN | apply below_drew1 | refine below_set ?_ GE101.out | refine below_set ?_ GE117.out) | exact HB.out)⟩
             ·
              rw [if_neg c71] at H
              have c71b0 : (t153 == t139) = false := beq_eq_false_iff_ne.mpr c71
              have c71b1 : (t153 != t139) = true := bne_iff_ne.mpr c71
              exact absurd H (by simp)
           ·
            replace c68 := Bool.eq_false_iff.mpr c68
            subst c68
            have H1 : (some false) = some true := by rw [if_neg (show ¬ (false = true) by decide)] at H; exact H
            clear H
            have H := H1
            clear H1
            exact absurd H (by simp)
          ·
           rw [if_neg c63] at H
           have c63b0 : (t141 == t139) = false := beq_eq_false_iff_ne.mpr c63
           have c63b1 : (t141 != t139) = true := bne_iff_ne.mpr c63
           exact absurd H (by simp)
     ·
      replace c23 := Bool.eq_false_iff.mpr c23
      subst c23
      have H1 : (some false) = some true := by rw [if_neg (show ¬ (false = true) by decide)] at H; exact H
      clear H
      have H := H1
      clear H1
      exact absurd H (by simp)
    ·
     replace c20 := Bool.eq_false_iff.mpr c20
     subst c20
     have H1 : (some false) = some true := by rw [if_neg (show ¬ (false = true) by decide)] at H; exact H
     clear H
     have H := H1
     clear H1
     exact absurd H (by simp)
   ·
    replace c17 := Bool.eq_false_iff.mpr c17
    subst c17
    have H1 : (some false) = some true := by rw [if_neg (show ¬ (false = true) by decide)] at H; exact H
    clear H
    have H := H1
    clear H1
    exact absurd H (by simp)

/-- THE ONE PURE STATEMENT of laws_FnExactManyServe: yours. -/
def laws_FnExactManyServe.Pure : Prop := ∀ (a0_0 : Int) (l0_1 : List (S120)) (l1 : List Int), (Lit.int .i64 a0_0).wf = true → l0_1.length ≤ 9223372036854775807 → (∀ y0 ∈ l0_1, ((Lit.int .i64 y0.f0).wf = true) ∧ ((Lit.int .i64 y0.f1).wf = true) ∧ ((Lit.int .i64 y0.f2).wf = true) ∧ ((Lit.int .i64 y0.f3).wf = true) ∧ ((Lit.int .i64 y0.f4).wf = true)) → l1.length ≤ 9223372036854775807 → (∀ y0 ∈ l1, (Lit.int .i64 y0).wf = true) → ∃ k, laws_FnExactManyServe.f k a0_0 l0_1 l1 = some true

end Go.Proofs.Ytjmpngfgfddpaaa.P
