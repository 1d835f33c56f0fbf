-- written for this claim by a program (wip/gen/myprint.py over the print tool). Not trusted: Lean checks it.
import Derived.Test.YtcklifkbodmoaaaPx0
import Derived.Test.YtcklifkbodmoaaaHUp
import Derived.Test.YtcklifkbodmoaaaPFSpecL30Open
import Derived.Test.YtcklifkbodmoaaaPFSpecL30RdPick
import Derived.Test.YtcklifkbodmoaaaPFSpecL30Anyplan
namespace Go.Proofs.Ytcklifkbodmoaaa.P
open Go.RowKit Go.Proofs.YtcklifkbodmoaaaV.PrintWords Go.Proofs.YtcklifkbodmoaaaV.PrintLast
set_option linter.unusedVariables false
set_option linter.unusedSimpArgs false

/-! ### spec_DrawPlanStair: function 48 -/
def spec_DrawPlanStair.f (k : Nat) (l0 : List Int) : Option (Int × Int × (List (S32)) × Int × Int) := (spec_l30Open.f l0).bind fun bt102 => ((spec_l30AnyPlan.f k bt102.1 bt102.2).bind fun bt105 => ((spec_l30Rd_pick.f k bt102.1 bt105.2.2.2 bt105.1).bind fun bt112 => ((spec_l30Rd_pick.f k bt102.1 bt112.2 bt105.1).bind fun bt114 => (some (bt105.1, bt105.2.1, bt105.2.2.1, bt112.1, bt114.1)))))
def spec_DrawPlanStair.T3 : Bool × List (List Nat × List Nat) := (true, [([], []), ([], []), ([], []), ([2], [2]), ([1, 3], [1, 3]), ([], []), ([], []), ([6], [6]), ([5, 7, 4], [5, 7]), ([0, 8, 0], [0]), ([4, 9, 0, 1, 2, 3, 4, 9], [4]), ([8, 10, 0, 1, 2, 3, 4, 5, 6, 7, 8, 9, 10], [8])])
def spec_DrawPlanStair.B3 : List Nat := [0, 0, 0, 4, 14, 0, 0, 64, 254, 511, 1023, 2047]
theorem spec_DrawPlanStair.tab3 : rtab .any (opsOf Try.f48 3) = spec_DrawPlanStair.T3 := by kernel_rfl
theorem spec_DrawPlanStair.bits3 : waitsOk spec_DrawPlanStair.T3.2 spec_DrawPlanStair.B3 = true := by kernel_rfl
set_option maxHeartbeats 8000000 in
set_option maxRecDepth 100000 in
theorem spec_DrawPlanStair.calls (k : Nat) (A0 : Option Addr) (c0 : Nat) (l0 : List Int) (r1 : Int) (r2 : Int) (r3 : List (S32)) (r4 : Int) (r5 : Int) (w : World) (hr0 : Kd.C (Kd.int .u8) w A0 l0.length l0) (hc0 : l0.length ≤ c0) (h : spec_DrawPlanStair.f k l0 = some (r1, r2, r3, r4, r5)) :
  Calls Try.prog 48 #[.slice A0 l0.length c0] w fun e w' => ∃ v2_ : Value, e = .returned (.tuple #[.agg #[.int .i64 r1, .int .i64 r2, v2_], .int .i64 r4, .int .i64 r5]) ∧ Kd.R k32 32 w' w.heap.size (fun _ => True) v2_ r3 ∧ Below w.heap.size w w' := by
 have hu25 := Try.underlying25
 have HR0 := Aside0.mk hr0
 have HC0 := Aside0.mk hc0
 clear hr0 hc0
 have HB := Aside0.mk (Below.refl w.heap.size w)
 have H : ((spec_l30Open.f l0).bind fun bt102 => ((spec_l30AnyPlan.f k bt102.1 bt102.2).bind fun bt105 => ((spec_l30Rd_pick.f k bt102.1 bt105.2.2.2 bt105.1).bind fun bt112 => ((spec_l30Rd_pick.f k bt102.1 bt112.2 bt105.1).bind fun bt114 => (some (bt105.1, bt105.2.1, bt105.2.2.1, bt112.1, bt114.1)))))) = some (r1, r2, r3, r4, r5) := h
 clear h
 replace H := Option.bind_eq_some_iff.mp H
 obtain ⟨⟨t102, t103⟩, A20, H⟩ := H
 replace H : ((spec_l30AnyPlan.f k t102 t103).bind fun bt105 => ((spec_l30Rd_pick.f k t102 bt105.2.2.2 bt105.1).bind fun bt112 => ((spec_l30Rd_pick.f k t102 bt112.2 bt105.1).bind fun bt114 => (some (bt105.1, bt105.2.1, bt105.2.2.1, bt112.1, bt114.1))))) = some (r1, r2, r3, r4, r5) := H
 have A2 := Aside0.mk A20
 clear A20
 replace H := Option.bind_eq_some_iff.mp H
 obtain ⟨⟨t105, t106, t107, t110⟩, A30, H⟩ := H
 replace H : ((spec_l30Rd_pick.f k t102 t110 t105).bind fun bt112 => ((spec_l30Rd_pick.f k t102 bt112.2 t105).bind fun bt114 => (some (t105, t106, t107, bt112.1, bt114.1)))) = some (r1, r2, r3, r4, r5) := H
 have A3 := Aside0.mk A30
 clear A30
 replace H := Option.bind_eq_some_iff.mp H
 obtain ⟨⟨t112, t113⟩, A40, H⟩ := H
 replace H : ((spec_l30Rd_pick.f k t102 t113 t105).bind fun bt114 => (some (t105, t106, t107, t112, bt114.1))) = some (r1, r2, r3, r4, r5) := H
 have A4 := Aside0.mk A40
 clear A40
 replace H := Option.bind_eq_some_iff.mp H
 obtain ⟨⟨t114, t115⟩, A50, H⟩ := H
 replace H : (some (t105, t106, t107, t112, t114)) = some (r1, r2, r3, r4, r5) := H
 have A5 := Aside0.mk A50
 clear A50
 simp only [Option.some.injEq, Prod.mk.injEq] at H
 obtain ⟨rfl, rfl, rfl, rfl, rfl⟩ := H
 go_enter Try.func48, Try.ntmps48
 try go_wp2_with (first | ((with_reducible refine gate_dst (N := 2) rfl ?_); refine be (cs := #[.int .i64 0, .int .i64 0, .slice none 0 0]) (t := 25) ?_; intro gb101 hg w6 hbox hb; have BK101 := Aside0.mk (hbox); have GW101 := gz w hg (uB0 HB); have GE101 := gz w hg (uB0 HB); replace HB := Aside0.mk (below_step (uB0 HB) hb); clear hb hbox hg) | ((with_reducible refine gate_callee (f := 58) rfl ?_); refine goesL_ (some 8) rfl rfl Try.func58 (by kernel_rfl) rfl #[.slice A0 l0.length c0] rfl ul ?_; (with_reducible refine (spec_l30Open.calls _ _ l0 t102 t103 w _ ?side1 ?side2 ?side3 A2.out).mono ?_); (case side1 => exact uB1 HB GE101.out); (case side2 => exact HR0.out); (case side3 => exact HC0.out); rintro e w7 ⟨g104, rfl, hi, hb, hb2⟩; refine ⟨_, rfl, ?_⟩; replace HB := Aside0.mk (hb); have HI104 := Aside0.mk (hi); have NB104_101 := Aside0.mk (IsS91.ne_blk hi (blk_below (g := gb101) (o := .cells #[.int .i64 0, .int .i64 0, .slice none 0 0] 25 (0, 0)) (ub BK101) hb2) (by decide)); have NB101_104 := Aside0.mk (Ne.symm (IsS91.ne_blk hi (blk_below (g := gb101) (o := .cells #[.int .i64 0, .int .i64 0, .slice none 0 0] 25 (0, 0)) (ub BK101) hb2) (by decide))); replace BK101 := Aside0.mk (blk_below (g := gb101) (o := .cells #[.int .i64 0, .int .i64 0, .slice none 0 0] 25 (0, 0)) (ub BK101) hb2); (try clear hb); (try clear hb2); (try clear hk); (try clear hi)) | ((with_reducible refine gate_callee (f := 59) rfl ?_); refine goesL_ (some 10) rfl rfl Try.func59 (by kernel_rfl) rfl #[.pointer (some ⟨g104, 0, none⟩)] rfl ul ?_; (with_reducible refine (spec_l30AnyPlan.calls k g104 t102 t103 t105 t106 t107 t110 w _ ?side1 ?side2 A3.out).mono ?_); (case side1 => exact uI1 HI104 NB104_101.out); (case side2 => exact uB2 HB (IsS91.ge HI104.out) GE101.out); rintro e w8 ⟨v108, rfl, ho0, hi, hb, hk⟩; refine ⟨_, rfl, ?_⟩; replace BK101 := Aside0.mk (KeepBut.blk hk (g' := gb101) (o := .cells #[.int .i64 0, .int .i64 0, .slice none 0 0] 25 (0, 0)) (ub BK101) NB101_104.out (by simp)); have HO109 := Aside0.mk (Kd.R_lower ho0 (below_size (uB2 HB (IsS91.ge HI104.out) GE101.out))); replace HB := Aside0.mk (hb); replace HI104 := Aside0.mk (hi); (try clear hb); (try clear hb2); (try clear hk); (try clear hi); (try clear ho0)) | ((with_reducible refine gate_dst (N := 6) rfl ?_); refine be (cs := #[.int .i64 0, .int .i64 0, .slice none 0 0]) (t := 25) ?_; intro gb111 hg w9 hbox hb; replace HO109 := Aside0.mk (Kd.R_below (ur HO109) hb); have BK111 := Aside0.mk (hbox); have GW111 := Aside0.mk ((by rw [hg]; exact (below_size (uB2 HB (IsS91.ge HI104.out) GE101.out)) : w.heap.size ≤ gb111)); have GE111 := Aside0.mk ((by rw [hg]; exact (below_size (uB2 HB (IsS91.ge HI104.out) GE101.out)) : w.heap.size ≤ gb111)); replace HB := Aside0.mk (below_step (uB2 HB (IsS91.ge HI104.out) GE101.out) hb); have NB101_111 := gl hg BK101; have NB111_101 := gr hg BK101; replace BK101 := bb BK101 hb; have NB104_111 := Aside0.mk ((by rw [hg]; exact Nat.ne_of_lt (IsS91.lt (show IsS91 w _ g104 t102 t110 from uI1 HI104 NB104_101.out)) : g104 ≠ gb111)); have NB111_104 := Aside0.mk ((by rw [hg]; exact Nat.ne_of_gt (IsS91.lt (show IsS91 w _ g104 t102 t110 from uI1 HI104 NB104_101.out)) : gb111 ≠ g104)); replace HI104 := Aside0.mk (IsS91.below (uI1 HI104 NB104_101.out) hb); clear hb hbox hg; have hnb10 := NB111_101.out; have hnc10 := NB101_111.out; have hnb11 := NB111_104.out; have hnc11 := NB104_111.out; obtain ⟨hcz12_0, hcz12_1, hcz12_2, hfz12_0, hfz12_1, hfz12_2⟩ := bc3 BK111; obtain ⟨Ao13, co13, eo13⟩ := Kd.R_slice HO109.out; subst eo13))
 have n0_ : Aside0 (Kd.R k32 32 (((w9.setCell ⟨gb111, 0, none⟩ (.int .i64 t105)).setCell ⟨gb111, 1, none⟩ (.int .i64 t106)).setCell ⟨gb111, 2, none⟩ (.slice Ao13 t107.length co13)) w.heap.size (fun _ => True) (.slice Ao13 t107.length co13) t107) := ⟨by (with_reducible repeat (first | apply Kd.R_alloc | apply Kd.R_drewN | apply Kd.R_drew)); exact Kd.R_mono (rf3 HO109 BK111) (fun _ hk => trivial)⟩
 have n1_ : Aside0 ((((w9.setCell ⟨gb111, 0, none⟩ (.int .i64 t105)).setCell ⟨gb111, 1, none⟩ (.int .i64 t106)).setCell ⟨gb111, 2, none⟩ (.slice Ao13 t107.length co13)).heap[gb101]? = some (.cells #[.int .i64 0, .int .i64 0, .slice none 0 0] 25 (0, 0))) := ⟨by (with_reducible repeat first | apply zbn | apply zbd | apply zba); refine fa3 ?_ NB101_111; exact ub BK101⟩
 have n2_ : Aside0 ((((w9.setCell ⟨gb111, 0, none⟩ (.int .i64 t105)).setCell ⟨gb111, 1, none⟩ (.int .i64 t106)).setCell ⟨gb111, 2, none⟩ (.slice Ao13 t107.length co13)).heap[gb111]? = some (.cells #[.int .i64 t105, .int .i64 t106, .slice Ao13 t107.length co13] 25 (0, 0))) := ⟨by (with_reducible repeat first | apply zbn | apply zbd | apply zba); refine pu3 (.int .i64 0) (.int .i64 0) (.slice none 0 0) ?_; exact ub BK111⟩
 have n3_ : Aside0 (IsS91 w (((w9.setCell ⟨gb111, 0, none⟩ (.int .i64 t105)).setCell ⟨gb111, 1, none⟩ (.int .i64 t106)).setCell ⟨gb111, 2, none⟩ (.slice Ao13 t107.length co13)) g104 t102 t110) := ⟨uI2 HI104 NB104_101.out NB104_111.out⟩
 have n4_ : Aside0 (Below w.heap.size w (((w9.setCell ⟨gb111, 0, none⟩ (.int .i64 t105)).setCell ⟨gb111, 1, none⟩ (.int .i64 t106)).setCell ⟨gb111, 2, none⟩ (.slice Ao13 t107.length co13))) := ⟨uB3 HB (IsS91.ge HI104.out) GE101.out GE111.out⟩
 (try clear HO109)
 (try clear BK101)
 (try clear BK111)
 (try clear HI104)
 (try clear HB)
 generalize (((w9.setCell ⟨gb111, 0, none⟩ (.int .i64 t105)).setCell ⟨gb111, 1, none⟩ (.int .i64 t106)).setCell ⟨gb111, 2, none⟩ (.slice Ao13 t107.length co13)) = w14 at n0_ n1_ n2_ n3_ n4_ ⊢
 have HO109 := n0_
 have BK101 := n1_
 have BK111 := n2_
 have HI104 := n3_
 have HB := n4_
 clear n0_ n1_ n2_ n3_ n4_
 have n0_ := Aside0.mk (Kd.R_drew HO109.out)
 have n1_ := Aside0.mk (blk_drew BK101.out)
 have n2_ := Aside0.mk (blk_drew BK111.out)
 have n3_ := Aside0.mk (IsS91.drew HI104.out)
 have n4_ := Aside0.mk (below_drew1 HB.out)
 clear HO109
 clear BK101
 clear BK111
 clear HI104
 clear HB
 have HO109 := n0_
 have BK101 := n1_
 have BK111 := n2_
 have HI104 := n3_
 have HB := n4_
 clear n0_ n1_ n2_ n3_ n4_
 refine start_ (n := 12) (S := fun w' => w'.cell? ⟨gb111, 0, none⟩ = some (.int .i64 t105) ∧ w'.cell? ⟨gb111, 1, none⟩ = some (.int .i64 t106) ∧ w'.cell? ⟨gb111, 2, none⟩ = some (.slice Ao13 t107.length co13)) (ds := []) (zt 12 0) (by kernel_rfl) rfl (by kernel_rfl) (b3_ BK111) (fun hHeld => ?_); refine with_tabW spec_DrawPlanStair.tab3 spec_DrawPlanStair.bits3 (fun HT_ HW_ => ?_)
 generalize w14.drew = w15 at HO109 BK101 BK111 HI104 HB hHeld ⊢
 refine pure_ (i := 1) (N := some 12) (v := ?_) (a' := ?_) (zt 12 2) rfl rfl (any_of HT_.out (by kernel_rfl)) (fun _ _ _ h => h) (Or.inl ⟨by rfl, ?_⟩) ?_ ?_
 rotate_left
 (intro w'; go_simp; with_reducible rfl)
 rotate_left
 (simp only [Act.put, List.setIfInBounds_toArray, List.set_cons_zero, List.set_cons_succ, i64_w, i32_w]; rfl)
 refine pure_ (i := 2) (N := some 13) (v := ?_) (a' := ?_) (zt 12 6) rfl rfl (any_of HT_.out (by kernel_rfl)) (fun _ _ _ h => h) (Or.inl ⟨by rfl, ?_⟩) ?_ ?_
 rotate_left
 (intro w'; go_simp; with_reducible rfl)
 rotate_left
 (simp only [Act.put, List.setIfInBounds_toArray, List.set_cons_zero, List.set_cons_succ, i64_w, i32_w]; rfl)
 refine pure_ (i := 5) (N := some 16) (v := ?_) (a' := ?_) (zt 12 38) rfl rfl (any_of HT_.out (by kernel_rfl)) (fun _ _ _ h => h) (Or.inl ⟨by rfl, ?_⟩) ?_ ?_
 rotate_left
 (intro w'; go_simp; with_reducible rfl)
 rotate_left
 (simp only [Act.put, List.setIfInBounds_toArray, List.set_cons_zero, List.set_cons_succ, i64_w, i32_w]; rfl)
 refine pure_ (i := 6) (N := some 17) (v := ?_) (a' := ?_) (zt 12 102) rfl rfl (any_of HT_.out (by kernel_rfl)) (fun _ _ _ h => h) (Or.inl ⟨by rfl, ?_⟩) ?_ ?_
 rotate_left
 (intro w'; go_simp; with_reducible rfl)
 rotate_left
 (simp only [Act.put, List.setIfInBounds_toArray, List.set_cons_zero, List.set_cons_succ, i64_w, i32_w]; rfl)
 refine take_ (i := 0) (N := some 11) (v := ?_) (a' := ?_) (zt 12 103) rfl rfl (take_ofW HT_.out HW_.out (by kernel_rfl)) (fun _ _ _ h => h) (Or.inl ⟨by rfl, ?_⟩) hHeld ?_ ?_
 rotate_left
 (rintro w' ⟨s0, s1, s2⟩; go_simp; with_reducible rfl)
 rotate_left
 (simp only [Act.put, List.setIfInBounds_toArray, List.set_cons_zero, List.set_cons_succ, i64_w, i32_w]; rfl)
 refine take_ (i := 3) (N := some 14) (v := ?_) (a' := ?_) (zt 12 111) rfl rfl (take_ofW HT_.out HW_.out (by kernel_rfl)) (fun _ _ _ h => h) (Or.inl ⟨by rfl, ?_⟩) hHeld ?_ ?_
 rotate_left
 (rintro w' ⟨s0, s1, s2⟩; go_simp; with_reducible rfl)
 rotate_left
 (simp only [Act.put, List.setIfInBounds_toArray, List.set_cons_zero, List.set_cons_succ, i64_w, i32_w]; rfl)
 refine take_ (i := 7) (N := some 18) (v := ?_) (a' := ?_) (zt 12 239) rfl rfl (take_ofW HT_.out HW_.out (by kernel_rfl)) (fun _ _ _ h => h) (Or.inl ⟨by rfl, ?_⟩) hHeld ?_ ?_
 rotate_left
 (rintro w' ⟨s0, s1, s2⟩; go_simp; with_reducible rfl)
 rotate_left
 (simp only [Act.put, List.setIfInBounds_toArray, List.set_cons_zero, List.set_cons_succ, i64_w, i32_w]; rfl)
 refine qo HT_ 4 (fun K hK => ?_)
 refine goes_ Try.func60 (by kernel_rfl) rfl #[.pointer (some ⟨g104, 0, none⟩), .int .i64 t105] (by rfl) rfl rfl ul ?_
 with_reducible refine (spec_l30Rd_pick.calls k g104 t102 t110 t105 t112 t113 w _ ?side1 ?side2 A4.out).mono ?_
 (case side1 => exact uI2 HI104 NB104_101.out NB104_111.out)
 (case side2 => exact uB3 HB (IsS91.ge HI104.out) GE101.out GE111.out)
 rintro e w16 ⟨rfl, hi, hb, hk⟩
 refine ⟨_, rfl, ?_⟩
 have n0_ := Aside0.mk (KeepBut.blk hk (g' := gb101) (o := .cells #[.int .i64 0, .int .i64 0, .slice none 0 0] 25 (0, 0)) (ub BK101) NB101_104.out (by simp))
 have n1_ := Aside0.mk (Kd.R_mono (Kd.R_keep (IsS91.apart (show IsS91 w _ g104 t102 t110 from uI2 HI104 NB104_101.out NB104_111.out) (ur HO109) (by decide)) hk (fun _ h => h.2)) (fun _ h => h.1))
 have n2_ := Aside0.mk (KeepBut.blk hk (g' := gb111) (o := .cells #[.int .i64 t105, .int .i64 t106, .slice Ao13 t107.length co13] 25 (0, 0)) (ub BK111) NB111_104.out (by simp))
 have n3_ := Aside0.mk (hb)
 have n4_ := Aside0.mk (hi)
 clear BK101
 clear HO109
 clear BK111
 clear HB
 clear HI104
 have BK101 := n0_
 have HO109 := n1_
 have BK111 := n2_
 have HB := n3_
 have HI104 := n4_
 clear n0_ n1_ n2_ n3_ n4_
 (try clear hb)
 (try clear hb2)
 (try clear hk)
 (try clear hi)
 refine hK.out _ _ (b3_ BK111) (fun hHeld => ?_)
 clear hK K
 refine norm_ (a' := ?_) ?_ ?_
 rotate_left
 ·
  show Act.put _ (some 15) _ = _
  simp only [Act.put, List.setIfInBounds_toArray, List.set_cons_zero, List.set_cons_succ, i64_w, i32_w]; rfl
 refine qo HT_ 8 (fun K hK => ?_)
 refine goes_ Try.func60 (by kernel_rfl) rfl #[.pointer (some ⟨g104, 0, none⟩), .int .i64 t105] (by rfl) rfl rfl ul ?_
 with_reducible refine (spec_l30Rd_pick.calls k g104 t102 t113 t105 t114 t115 w _ ?side1 ?side2 A5.out).mono ?_
 (case side1 => exact uI2 HI104 NB104_101.out NB104_111.out)
 (case side2 => exact uB3 HB (IsS91.ge HI104.out) GE101.out GE111.out)
 rintro e w17 ⟨rfl, hi, hb, hk⟩
 refine ⟨_, rfl, ?_⟩
 have n0_ := Aside0.mk (KeepBut.blk hk (g' := gb101) (o := .cells #[.int .i64 0, .int .i64 0, .slice none 0 0] 25 (0, 0)) (ub BK101) NB101_104.out (by simp))
 have n1_ := Aside0.mk (Kd.R_mono (Kd.R_keep (IsS91.apart (show IsS91 w _ g104 t102 t113 from uI2 HI104 NB104_101.out NB104_111.out) (ur HO109) (by decide)) hk (fun _ h => h.2)) (fun _ h => h.1))
 have n2_ := Aside0.mk (KeepBut.blk hk (g' := gb111) (o := .cells #[.int .i64 t105, .int .i64 t106, .slice Ao13 t107.length co13] 25 (0, 0)) (ub BK111) NB111_104.out (by simp))
 have n3_ := Aside0.mk (hb)
 have n4_ := Aside0.mk (hi)
 clear BK101
 clear HO109
 clear BK111
 clear HB
 clear HI104
 have BK101 := n0_
 have HO109 := n1_
 have BK111 := n2_
 have HB := n3_
 have HI104 := n4_
 clear n0_ n1_ n2_ n3_ n4_
 (try clear hb)
 (try clear hb2)
 (try clear hk)
 (try clear hi)
 refine hK.out _ _ (b3_ BK111) (fun hHeld => ?_)
 clear hK K
 refine norm_ (a' := ?_) ?_ ?_
 rotate_left
 ·
  show Act.put _ (some 19) _ = _
  simp only [Act.put, List.setIfInBounds_toArray, List.set_cons_zero, List.set_cons_succ, i64_w, i32_w]; rfl
 refine qo HT_ 9 (fun K hK => ?_)
 have hs18 : w17.cell? ⟨gb101, 0, none⟩ = some (.int .i64 0) := (blk_cell BK101.out 0).trans rfl
 have hfs18 := blk_frozen BK101.out 0
 have hns18_1 := NB111_101.out
 have hms18_1 := NB101_111.out
 have hs19 : w17.cell? ⟨gb101, 1, none⟩ = some (.int .i64 0) := (blk_cell BK101.out 1).trans rfl
 have hfs19 := blk_frozen BK101.out 1
 have hns19_1 := NB111_101.out
 have hms19_1 := NB101_111.out
 have hs20 : w17.cell? ⟨gb101, 2, none⟩ = some (.slice none 0 0) := (blk_cell BK101.out 2).trans rfl
 have hfs20 := blk_frozen BK101.out 2
 have hns20_1 := NB111_101.out
 have hms20_1 := NB101_111.out
 refine skip_ (w1 := ?_) (by rfl) rfl ?_ ?_
 rotate_left
 ·
  go_simp; rfl
 refine hK.out _ _ ⟨((cell_far (p := ⟨gb101, _, none⟩) NB111_101.out _).trans (((cell_far (p := ⟨gb101, _, none⟩) NB111_101.out _).trans (((cell_far (p := ⟨gb101, _, none⟩) NB111_101.out _).trans (hHeld.1)))))), ((cell_far (p := ⟨gb101, _, none⟩) NB111_101.out _).trans (((cell_far (p := ⟨gb101, _, none⟩) NB111_101.out _).trans (((cell_far (p := ⟨gb101, _, none⟩) NB111_101.out _).trans (hHeld.2.1)))))), ((cell_far (p := ⟨gb101, _, none⟩) NB111_101.out _).trans (((cell_far (p := ⟨gb101, _, none⟩) NB111_101.out _).trans (((cell_far (p := ⟨gb101, _, none⟩) NB111_101.out _).trans (hHeld.2.2))))))⟩ (fun hHeld => ?_)
 clear hK K
 refine pure_ (i := 10) (N := some 3) (v := ?_) (a' := ?_) (zt 12 2047) rfl rfl (any_of HT_.out (by kernel_rfl)) (fun _ _ _ h => h) (Or.inl ⟨by rfl, ?_⟩) ?_ ?_
 rotate_left
 (intro w'; go_simp; with_reducible rfl)
 rotate_left
 (simp only [Act.put, List.setIfInBounds_toArray, List.set_cons_zero, List.set_cons_succ, i64_w, i32_w]; rfl)
 refine pure_ (i := 11) (N := some 4) (v := ?_) (a' := ?_) (zt 12 4095) rfl rfl (any_of HT_.out (by kernel_rfl)) (fun _ _ _ h => h) (Or.inl ⟨by rfl, ?_⟩) ?_ ?_
 rotate_left
 (intro w'; go_simp; with_reducible rfl)
 rotate_left
 (simp only [Act.put, List.setIfInBounds_toArray, List.set_cons_zero, List.set_cons_succ, i64_w, i32_w]; rfl)
 refine done_ (done_of HT_.out (by kernel_rfl)) ?_
 try go_wp2
 refine bodyPost_ret (results_ctt rfl _ _ gb101 25 #[.int .i64 t105, .int .i64 t106, .slice Ao13 t107.length co13] (0, 0) _ rfl (by (with_reducible repeat first | apply zbn | apply zbd | apply zba); refine pu3 (.int .i64 0) (.int .i64 0) (.slice none 0 0) ?_; exact ub BK101) Try.underlying25 rfl (by kernel_rfl)) rfl ?_
 exact ⟨_, by first | rfl | (simp [errW_none, errW_some] <;> rfl) | (simp [*, errW_none, errW_some] <;> rfl), by (with_reducible repeat (first | apply Kd.R_alloc | apply Kd.R_drewN | apply Kd.R_drew)); exact Kd.R_mono (rf3 HO109 BK101) (fun _ hk => trivial), uB3 HB (IsS91.ge HI104.out) GE101.out GE111.out⟩

end Go.Proofs.Ytcklifkbodmoaaa.P
