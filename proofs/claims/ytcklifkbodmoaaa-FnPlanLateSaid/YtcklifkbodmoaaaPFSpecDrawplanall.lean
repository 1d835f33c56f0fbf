-- written for this claim by a program (wip/gen/myprint.py over the print tool). Not trusted: Lean checks it.
import Derived.Test.YtcklifkbodmoaaaPx0
import Derived.Test.YtcklifkbodmoaaaHUp
import Derived.Test.YtcklifkbodmoaaaPFSpecL30Open
import Derived.Test.YtcklifkbodmoaaaPFSpecL30RdPick
import Derived.Test.YtcklifkbodmoaaaPFSpecL30RdOne
import Derived.Test.YtcklifkbodmoaaaPFSpecL30Anyplan
namespace Go.Proofs.Ytcklifkbodmoaaa.P
open Go.RowKit Go.Proofs.YtcklifkbodmoaaaV.PrintWords Go.Proofs.YtcklifkbodmoaaaV.PrintLast
set_option linter.unusedVariables false
set_option linter.unusedSimpArgs false

/-! ### spec_DrawPlanAll: function 17 -/
def spec_DrawPlanAll.f (k : Nat) (l0 : List Int) : Option (Int × Int × (List (S32)) × Int × Int) := (spec_l30Open.f l0).bind fun bt102 => ((spec_l30AnyPlan.f k bt102.1 bt102.2).bind fun bt105 => ((spec_l30Rd_pick.f k bt102.1 bt105.2.2.2 bt105.1).bind fun bt112 => ((spec_l30Rd_one.f k bt102.1 bt112.2 (([0, 5, 20, 50, 199, 200] : List Int))).bind fun bt117 => (some (bt105.1, bt105.2.1, bt105.2.2.1, bt112.1, bt117.1)))))
def spec_DrawPlanAll.T3 : Bool × List (List Nat × List Nat) := (true, [([], []), ([], []), ([], []), ([2], [2]), ([1, 3], [1, 3]), ([], []), ([], []), ([5, 6, 4], [5, 6]), ([0, 7, 0], [0]), ([4, 8, 0, 1, 2, 3, 4, 8], [4]), ([7, 9, 0, 1, 2, 3, 4, 5, 6, 7, 8, 9], [7])])
def spec_DrawPlanAll.B3 : List Nat := [0, 0, 0, 4, 14, 0, 0, 126, 255, 511, 1023]
theorem spec_DrawPlanAll.tab3 : rtab .any (opsOf Try.f17 3) = spec_DrawPlanAll.T3 := by kernel_rfl
theorem spec_DrawPlanAll.bits3 : waitsOk spec_DrawPlanAll.T3.2 spec_DrawPlanAll.B3 = true := by kernel_rfl
set_option maxHeartbeats 8000000 in
set_option maxRecDepth 100000 in
theorem spec_DrawPlanAll.calls (k : Nat) (A0 : Option Addr) (c0 : Nat) (l0 : List Int) (r1 : Int) (r2 : Int) (r3 : List (S32)) (r4 : Int) (r5 : Int) (w : World) (hr0 : Kd.C (Kd.int .u8) w A0 l0.length l0) (hc0 : l0.length ≤ c0) (h : spec_DrawPlanAll.f k l0 = some (r1, r2, r3, r4, r5)) :
  Calls Try.prog 17 #[.slice A0 l0.length c0] w fun e w' => ∃ v2_ : Value, e = .returned (.tuple #[.agg #[.int .i64 r1, .int .i64 r2, v2_], .int .i64 r4, .int .i64 r5]) ∧ Kd.R k32 32 w' w.heap.size (fun _ => True) v2_ r3 ∧ Below w.heap.size w w' := by
 have hu25 := Try.underlying25
 have HR0 := Aside0.mk hr0
 have HC0 := Aside0.mk hc0
 clear hr0 hc0
 have HB := Aside0.mk (Below.refl w.heap.size w)
 have H : ((spec_l30Open.f l0).bind fun bt102 => ((spec_l30AnyPlan.f k bt102.1 bt102.2).bind fun bt105 => ((spec_l30Rd_pick.f k bt102.1 bt105.2.2.2 bt105.1).bind fun bt112 => ((spec_l30Rd_one.f k bt102.1 bt112.2 (([0, 5, 20, 50, 199, 200] : List Int))).bind fun bt117 => (some (bt105.1, bt105.2.1, bt105.2.2.1, bt112.1, bt117.1)))))) = some (r1, r2, r3, r4, r5) := h
 clear h
 replace H := Option.bind_eq_some_iff.mp H
 obtain ⟨⟨t102, t103⟩, A20, H⟩ := H
 replace H : ((spec_l30AnyPlan.f k t102 t103).bind fun bt105 => ((spec_l30Rd_pick.f k t102 bt105.2.2.2 bt105.1).bind fun bt112 => ((spec_l30Rd_one.f k t102 bt112.2 (([0, 5, 20, 50, 199, 200] : List Int))).bind fun bt117 => (some (bt105.1, bt105.2.1, bt105.2.2.1, bt112.1, bt117.1))))) = some (r1, r2, r3, r4, r5) := H
 have A2 := Aside0.mk A20
 clear A20
 replace H := Option.bind_eq_some_iff.mp H
 obtain ⟨⟨t105, t106, t107, t110⟩, A30, H⟩ := H
 replace H : ((spec_l30Rd_pick.f k t102 t110 t105).bind fun bt112 => ((spec_l30Rd_one.f k t102 bt112.2 (([0, 5, 20, 50, 199, 200] : List Int))).bind fun bt117 => (some (t105, t106, t107, bt112.1, bt117.1)))) = some (r1, r2, r3, r4, r5) := H
 have A3 := Aside0.mk A30
 clear A30
 replace H := Option.bind_eq_some_iff.mp H
 obtain ⟨⟨t112, t113⟩, A40, H⟩ := H
 replace H : ((spec_l30Rd_one.f k t102 t113 (([0, 5, 20, 50, 199, 200] : List Int))).bind fun bt117 => (some (t105, t106, t107, t112, bt117.1))) = some (r1, r2, r3, r4, r5) := H
 have A4 := Aside0.mk A40
 clear A40
 obtain ⟨y114, hy114⟩ : ∃ y_ : List Int, y_ = (([0, 5, 20, 50, 199, 200] : List Int)) := ⟨_, rfl⟩
 replace H : ((spec_l30Rd_one.f k t102 t113 y114).bind fun bt117 => (some (t105, t106, t107, t112, bt117.1))) = some (r1, r2, r3, r4, r5) := by first | (rw [hy114]; with_reducible exact H) | (have H2_ := (Option.bind_some _ _).symm.trans H; rw [hy114]; with_reducible exact H2_) | (have H2_ := (Option.bind_some _ _).symm.trans H; with_reducible exact H2_) | with_reducible exact H | (rw [hy114]; exact H) | exact H
 have Ny114 := Aside0.mk hy114
 clear hy114
 replace H := Option.bind_eq_some_iff.mp H
 obtain ⟨⟨t117, t118⟩, A50, H⟩ := H
 replace H : (some (t105, t106, t107, t112, t117)) = some (r1, r2, r3, r4, r5) := H
 have A5 := Aside0.mk A50
 clear A50
 simp only [Option.some.injEq, Prod.mk.injEq] at H
 obtain ⟨rfl, rfl, rfl, rfl, rfl⟩ := H
 go_enter Try.func17, Try.ntmps17
 try go_wp2_with (first | ((with_reducible refine gate_dst (N := 2) rfl ?_); refine be (cs := #[.int .i64 0, .int .i64 0, .slice none 0 0]) (t := 25) ?_; intro gb101 hg w6 hbox hb; have BK101 := Aside0.mk (hbox); have GW101 := gz w hg (uB0 HB); have GE101 := gz w hg (uB0 HB); replace HB := Aside0.mk (below_step (uB0 HB) hb); clear hb hbox hg) | ((with_reducible refine gate_callee (f := 58) rfl ?_); refine goesL_ (some 8) rfl rfl Try.func58 (by kernel_rfl) rfl #[.slice A0 l0.length c0] rfl ul ?_; (with_reducible refine (spec_l30Open.calls _ _ l0 t102 t103 w _ ?side1 ?side2 ?side3 A2.out).mono ?_); (case side1 => exact uB1 HB GE101.out); (case side2 => exact HR0.out); (case side3 => exact HC0.out); rintro e w7 ⟨g104, rfl, hi, hb, hb2⟩; refine ⟨_, rfl, ?_⟩; replace HB := Aside0.mk (hb); have HI104 := Aside0.mk (hi); have NB104_101 := Aside0.mk (IsS91.ne_blk hi (blk_below (g := gb101) (o := .cells #[.int .i64 0, .int .i64 0, .slice none 0 0] 25 (0, 0)) (ub BK101) hb2) (by decide)); have NB101_104 := Aside0.mk (Ne.symm (IsS91.ne_blk hi (blk_below (g := gb101) (o := .cells #[.int .i64 0, .int .i64 0, .slice none 0 0] 25 (0, 0)) (ub BK101) hb2) (by decide))); replace BK101 := Aside0.mk (blk_below (g := gb101) (o := .cells #[.int .i64 0, .int .i64 0, .slice none 0 0] 25 (0, 0)) (ub BK101) hb2); (try clear hb); (try clear hb2); (try clear hk); (try clear hi)) | ((with_reducible refine gate_callee (f := 59) rfl ?_); refine goesL_ (some 10) rfl rfl Try.func59 (by kernel_rfl) rfl #[.pointer (some ⟨g104, 0, none⟩)] rfl ul ?_; (with_reducible refine (spec_l30AnyPlan.calls k g104 t102 t103 t105 t106 t107 t110 w _ ?side1 ?side2 A3.out).mono ?_); (case side1 => exact uI1 HI104 NB104_101.out); (case side2 => exact uB2 HB (IsS91.ge HI104.out) GE101.out); rintro e w8 ⟨v108, rfl, ho0, hi, hb, hk⟩; refine ⟨_, rfl, ?_⟩; replace BK101 := Aside0.mk (KeepBut.blk hk (g' := gb101) (o := .cells #[.int .i64 0, .int .i64 0, .slice none 0 0] 25 (0, 0)) (ub BK101) NB101_104.out (by simp)); have HO109 := Aside0.mk (Kd.R_lower ho0 (below_size (uB2 HB (IsS91.ge HI104.out) GE101.out))); replace HB := Aside0.mk (hb); replace HI104 := Aside0.mk (hi); (try clear hb); (try clear hb2); (try clear hk); (try clear hi); (try clear ho0)) | ((with_reducible refine gate_dst (N := 6) rfl ?_); refine be (cs := #[.int .i64 0, .int .i64 0, .slice none 0 0]) (t := 25) ?_; intro gb111 hg w9 hbox hb; replace HO109 := Aside0.mk (Kd.R_below (ur HO109) hb); have BK111 := Aside0.mk (hbox); have GW111 := Aside0.mk ((by rw [hg]; exact (below_size (uB2 HB (IsS91.ge HI104.out) GE101.out)) : w.heap.size ≤ gb111)); have GE111 := Aside0.mk ((by rw [hg]; exact (below_size (uB2 HB (IsS91.ge HI104.out) GE101.out)) : w.heap.size ≤ gb111)); replace HB := Aside0.mk (below_step (uB2 HB (IsS91.ge HI104.out) GE101.out) hb); have NB101_111 := gl hg BK101; have NB111_101 := gr hg BK101; replace BK101 := bb BK101 hb; have NB104_111 := Aside0.mk ((by rw [hg]; exact Nat.ne_of_lt (IsS91.lt (show IsS91 w _ g104 t102 t110 from uI1 HI104 NB104_101.out)) : g104 ≠ gb111)); have NB111_104 := Aside0.mk ((by rw [hg]; exact Nat.ne_of_gt (IsS91.lt (show IsS91 w _ g104 t102 t110 from uI1 HI104 NB104_101.out)) : gb111 ≠ g104)); replace HI104 := Aside0.mk (IsS91.below (uI1 HI104 NB104_101.out) hb); clear hb hbox hg; have hnb10 := NB111_101.out; have hnc10 := NB101_111.out; have hnb11 := NB111_104.out; have hnc11 := NB104_111.out; obtain ⟨hcz12_0, hcz12_1, hcz12_2, hfz12_0, hfz12_1, hfz12_2⟩ := bc3 BK111; obtain ⟨Ao13, co13, eo13⟩ := Kd.R_slice HO109.out; subst eo13))
 have n0_ : Aside0 (Kd.R k32 32 (((w9.setCell ⟨gb111, 0, none⟩ (.int .i64 t105)).setCell ⟨gb111, 1, none⟩ (.int .i64 t106)).setCell ⟨gb111, 2, none⟩ (.slice Ao13 t107.length co13)) w.heap.size (fun _ => True) (.slice Ao13 t107.length co13) t107) := ⟨by (with_reducible repeat (first | apply Kd.R_alloc | apply Kd.R_drewN | apply Kd.R_drew)); exact Kd.R_mono (rf3 HO109 BK111) (fun _ hk => trivial)⟩
 have n1_ : Aside0 ((((w9.setCell ⟨gb111, 0, none⟩ (.int .i64 t105)).setCell ⟨gb111, 1, none⟩ (.int .i64 t106)).setCell ⟨gb111, 2, none⟩ (.slice Ao13 t107.length co13)).heap[gb101]? = some (.cells #[.int .i64 0, .int .i64 0, .slice none 0 0] 25 (0, 0))) := ⟨by (with_reducible repeat first | apply zbn | apply zbd | apply zba); refine fa3 ?_ NB101_111; exact ub BK101⟩
 have n2_ : Aside0 ((((w9.setCell ⟨gb111, 0, none⟩ (.int .i64 t105)).setCell ⟨gb111, 1, none⟩ (.int .i64 t106)).setCell ⟨gb111, 2, none⟩ (.slice Ao13 t107.length co13)).heap[gb111]? = some (.cells #[.int .i64 t105, .int .i64 t106, .slice Ao13 t107.length co13] 25 (0, 0))) := ⟨by (with_reducible repeat first | apply zbn | apply zbd | apply zba); refine pu3 (.int .i64 0) (.int .i64 0) (.slice none 0 0) ?_; exact ub BK111⟩
 have n3_ : Aside0 (IsS91 w (((w9.setCell ⟨gb111, 0, none⟩ (.int .i64 t105)).setCell ⟨gb111, 1, none⟩ (.int .i64 t106)).setCell ⟨gb111, 2, none⟩ (.slice Ao13 t107.length co13)) g104 t102 t110) := ⟨uI2 HI104 NB104_101.out NB104_111.out⟩
 have n4_ : Aside0 (Below w.heap.size w (((w9.setCell ⟨gb111, 0, none⟩ (.int .i64 t105)).setCell ⟨gb111, 1, none⟩ (.int .i64 t106)).setCell ⟨gb111, 2, none⟩ (.slice Ao13 t107.length co13))) := ⟨uB3 HB (IsS91.ge HI104.out) GE101.out GE111.out⟩
 (try clear HO109)
 (try clear BK101)
 (try clear BK111)
 (try clear HI104)
 (try clear HB)
 generalize (((w9.setCell ⟨gb111, 0, none⟩ (.int .i64 t105)).setCell ⟨gb111, 1, none⟩ (.int .i64 t106)).setCell ⟨gb111, 2, none⟩ (.slice Ao13 t107.length co13)) = w14 at n0_ n1_ n2_ n3_ n4_ ⊢
 have HO109 := n0_
 have BK101 := n1_
 have BK111 := n2_
 have HI104 := n3_
 have HB := n4_
 clear n0_ n1_ n2_ n3_ n4_
 have n0_ := Aside0.mk (Kd.R_drew HO109.out)
 have n1_ := Aside0.mk (blk_drew BK101.out)
 have n2_ := Aside0.mk (blk_drew BK111.out)
 have n3_ := Aside0.mk (IsS91.drew HI104.out)
 have n4_ := Aside0.mk (below_drew1 HB.out)
 clear HO109
 clear BK101
 clear BK111
 clear HI104
 clear HB
 have HO109 := n0_
 have BK101 := n1_
 have BK111 := n2_
 have HI104 := n3_
 have HB := n4_
 clear n0_ n1_ n2_ n3_ n4_
 refine start_ (n := 11) (S := fun w' => w'.cell? ⟨gb111, 0, none⟩ = some (.int .i64 t105) ∧ w'.cell? ⟨gb111, 1, none⟩ = some (.int .i64 t106) ∧ w'.cell? ⟨gb111, 2, none⟩ = some (.slice Ao13 t107.length co13)) (ds := []) (zt 11 0) (by kernel_rfl) rfl (by kernel_rfl) (b3_ BK111) (fun hHeld => ?_); refine with_tabW spec_DrawPlanAll.tab3 spec_DrawPlanAll.bits3 (fun HT_ HW_ => ?_)
 generalize w14.drew = w15 at HO109 BK101 BK111 HI104 HB hHeld ⊢
 refine pure_ (i := 1) (N := some 12) (v := ?_) (a' := ?_) (zt 11 2) rfl rfl (any_of HT_.out (by kernel_rfl)) (fun _ _ _ h => h) (Or.inl ⟨by rfl, ?_⟩) ?_ ?_
 rotate_left
 (intro w'; go_simp; with_reducible rfl)
 rotate_left
 (simp only [Act.put, List.setIfInBounds_toArray, List.set_cons_zero, List.set_cons_succ, i64_w, i32_w]; rfl)
 refine pure_ (i := 2) (N := some 13) (v := ?_) (a' := ?_) (zt 11 6) rfl rfl (any_of HT_.out (by kernel_rfl)) (fun _ _ _ h => h) (Or.inl ⟨by rfl, ?_⟩) ?_ ?_
 rotate_left
 (intro w'; go_simp; with_reducible rfl)
 rotate_left
 (simp only [Act.put, List.setIfInBounds_toArray, List.set_cons_zero, List.set_cons_succ, i64_w, i32_w]; rfl)
 refine pure_ (i := 5) (N := some 16) (v := ?_) (a' := ?_) (zt 11 38) rfl rfl (any_of HT_.out (by kernel_rfl)) (fun _ _ _ h => h) (Or.inl ⟨by rfl, ?_⟩) ?_ ?_
 rotate_left
 (intro w'; go_simp; with_reducible rfl)
 rotate_left
 (simp only [Act.put, List.setIfInBounds_toArray, List.set_cons_zero, List.set_cons_succ, i64_w, i32_w]; rfl)
 refine take_ (i := 0) (N := some 11) (v := ?_) (a' := ?_) (zt 11 39) rfl rfl (take_ofW HT_.out HW_.out (by kernel_rfl)) (fun _ _ _ h => h) (Or.inl ⟨by rfl, ?_⟩) hHeld ?_ ?_
 rotate_left
 (rintro w' ⟨s0, s1, s2⟩; go_simp; with_reducible rfl)
 rotate_left
 (simp only [Act.put, List.setIfInBounds_toArray, List.set_cons_zero, List.set_cons_succ, i64_w, i32_w]; rfl)
 refine take_ (i := 3) (N := some 14) (v := ?_) (a' := ?_) (zt 11 47) rfl rfl (take_ofW HT_.out HW_.out (by kernel_rfl)) (fun _ _ _ h => h) (Or.inl ⟨by rfl, ?_⟩) hHeld ?_ ?_
 rotate_left
 (rintro w' ⟨s0, s1, s2⟩; go_simp; with_reducible rfl)
 rotate_left
 (simp only [Act.put, List.setIfInBounds_toArray, List.set_cons_zero, List.set_cons_succ, i64_w, i32_w]; rfl)
 refine join_ (σ := Value) 4 (zt 11 127) (fun s_ => [(15, .int .i64 t112), (17, s_)]) (fun s_ w' => (w'.cell? ⟨gb111, 0, none⟩ = some (.int .i64 t105) ∧ w'.cell? ⟨gb111, 1, none⟩ = some (.int .i64 t106) ∧ w'.cell? ⟨gb111, 2, none⟩ = some (.slice Ao13 t107.length co13)) ∧ (Kd.R k32 32 w' w.heap.size (fun _ => True) (.slice Ao13 t107.length co13) t107) ∧ (Kd.R (Kd.int .i64) 3 w' w.heap.size (fun _ => True) s_ y114) ∧ (w'.heap[gb101]? = some (.cells #[.int .i64 0, .int .i64 0, .slice none 0 0] 25 (0, 0))) ∧ (w'.heap[gb111]? = some (.cells #[.int .i64 t105, .int .i64 t106, .slice Ao13 t107.length co13] 25 (0, 0))) ∧ (IsS91 w w' g104 t102 t113) ∧ (Below w.heap.size w w')) ?_ ?_
 rotate_left
 ·
  intro hCont; refine two_ (i := 4) (j := 6) (Ni := some 15) (Nj := some 17) (zt 11 63) (zt 11 111) rfl rfl rfl rfl (two_of HT_.out (by kernel_rfl)) (by decide) (by decide) (fun K hK => ?_) (fun K hK => ?_)
  ·
   skip
   refine goes_ Try.func60 (by kernel_rfl) rfl #[.pointer (some ⟨g104, 0, none⟩), .int .i64 t105] (by rfl) rfl rfl ul ?_; with_reducible refine (spec_l30Rd_pick.calls k g104 t102 t110 t105 t112 t113 w _ ?side1 ?side2 A4.out).mono ?_
   (case side1 => exact uI2 HI104 NB104_101.out NB104_111.out); (case side2 => exact uB3 HB (IsS91.ge HI104.out) GE101.out GE111.out); rintro e w16 ⟨rfl, hi, hb, hk⟩; refine ⟨_, rfl, ?_⟩; replace BK101 := Aside0.mk (KeepBut.blk hk (g' := gb101) (o := .cells #[.int .i64 0, .int .i64 0, .slice none 0 0] 25 (0, 0)) (ub BK101) NB101_104.out (by simp)); replace HO109 := Aside0.mk (Kd.R_mono (Kd.R_keep (IsS91.apart (show IsS91 w _ g104 t102 t110 from uI2 HI104 NB104_101.out NB104_111.out) (ur HO109) (by decide)) hk (fun _ h => h.2)) (fun _ h => h.1)); replace BK111 := Aside0.mk (KeepBut.blk hk (g' := gb111) (o := .cells #[.int .i64 t105, .int .i64 t106, .slice Ao13 t107.length co13] 25 (0, 0)) (ub BK111) NB111_104.out (by simp)); replace HB := Aside0.mk (hb); replace HI104 := Aside0.mk (hi); (try clear hb); (try clear hb2); (try clear hk); (try clear hi); refine hK.out _ _ (b3_ BK111) (fun hHeld => ?_); clear hK K; refine nz ?_
   refine qo HT_ 6 (fun K hK => ?_); refine Kd.R_lit_step (Kd.int .i64) _ 3 ?hg (N := 17) ?hd (xs := ([0, 5, 20, 50, 199, 200] : List Int)) (inner := [.int .i64 0, .int .i64 5, .int .i64 20, .int .i64 50, .int .i64 199, .int .i64 200]) (ok := fun _ => True) (okp := fun _ => True) ?hr ?hp (fun _ hk => hk) trivial (Below.refl _ _) (Nat.le_refl _) (by simp) ?_; (case hd => rfl); (case hg => rfl); (case hr => first | (go_simp; done) | (go_simp; rfl)); (case hp => exact (Reps.one (show Kd.M (Kd.int .i64) _ _ _ 0 [.int .i64 0] from rfl) (Reps.one (show Kd.M (Kd.int .i64) _ _ _ 5 [.int .i64 5] from rfl) (Reps.one (show Kd.M (Kd.int .i64) _ _ _ 20 [.int .i64 20] from rfl) (Reps.one (show Kd.M (Kd.int .i64) _ _ _ 50 [.int .i64 50] from rfl) (Reps.one (show Kd.M (Kd.int .i64) _ _ _ 199 [.int .i64 199] from rfl) (Reps.one (show Kd.M (Kd.int .i64) _ _ _ 200 [.int .i64 200] from rfl) (Reps.none _ _)))))))); intro v115 w17 ho18 hb hg_ hnew_; clear hg_ hnew_; (first | rw [← Ny114.out] at ho18 | (simp only [Int.reduceToNat] at ho18; rw [← Ny114.out] at ho18)); replace HO109 := Aside0.mk (Kd.R_below (ur HO109) hb); have HO116 := Aside0.mk (Kd.R_lower ho18 (below_size (uB3 HB (IsS91.ge HI104.out) GE101.out GE111.out))); replace BK101 := bb BK101 hb; replace BK111 := bb BK111 hb; replace HB := Aside0.mk (below_step (uB3 HB (IsS91.ge HI104.out) GE101.out GE111.out) hb); replace HI104 := Aside0.mk (IsS91.below (uI2 HI104 NB104_101.out NB104_111.out) hb); clear hb ho18; refine hK.out _ _ (b3_ BK111) (fun hHeld => ?_); clear hK K; refine nz ?_
   exact norm_ (by simp only [putAll, Act.put, List.setIfInBounds_toArray, List.set_cons_zero, List.set_cons_succ]) (hCont (v115) _ ⟨hHeld, (ur HO109), (ur HO116), (ub BK101), (ub BK111), (uI2 HI104 NB104_101.out NB104_111.out), (uB3 HB (IsS91.ge HI104.out) GE101.out GE111.out)⟩)
  ·
   skip
   refine Kd.R_lit_step (Kd.int .i64) _ 3 ?hg (N := 17) ?hd (xs := ([0, 5, 20, 50, 199, 200] : List Int)) (inner := [.int .i64 0, .int .i64 5, .int .i64 20, .int .i64 50, .int .i64 199, .int .i64 200]) (ok := fun _ => True) (okp := fun _ => True) ?hr ?hp (fun _ hk => hk) trivial (Below.refl _ _) (Nat.le_refl _) (by simp) ?_; (case hd => rfl); (case hg => rfl); (case hr => first | (go_simp; done) | (go_simp; rfl)); (case hp => exact (Reps.one (show Kd.M (Kd.int .i64) _ _ _ 0 [.int .i64 0] from rfl) (Reps.one (show Kd.M (Kd.int .i64) _ _ _ 5 [.int .i64 5] from rfl) (Reps.one (show Kd.M (Kd.int .i64) _ _ _ 20 [.int .i64 20] from rfl) (Reps.one (show Kd.M (Kd.int .i64) _ _ _ 50 [.int .i64 50] from rfl) (Reps.one (show Kd.M (Kd.int .i64) _ _ _ 199 [.int .i64 199] from rfl) (Reps.one (show Kd.M (Kd.int .i64) _ _ _ 200 [.int .i64 200] from rfl) (Reps.none _ _)))))))); intro v115 w16 ho17 hb hg_ hnew_; clear hg_ hnew_; (first | rw [← Ny114.out] at ho17 | (simp only [Int.reduceToNat] at ho17; rw [← Ny114.out] at ho17)); replace HO109 := Aside0.mk (Kd.R_below (ur HO109) hb); have HO116 := Aside0.mk (Kd.R_lower ho17 (below_size (uB3 HB (IsS91.ge HI104.out) GE101.out GE111.out))); replace BK101 := bb BK101 hb; replace BK111 := bb BK111 hb; replace HB := Aside0.mk (below_step (uB3 HB (IsS91.ge HI104.out) GE101.out GE111.out) hb); replace HI104 := Aside0.mk (IsS91.below (uI2 HI104 NB104_101.out NB104_111.out) hb); clear hb ho17; refine hK.out _ _ (b3_ BK111) (fun hHeld => ?_); clear hK K; refine nz ?_
   refine qo HT_ 4 (fun K hK => ?_); refine goes_ Try.func60 (by kernel_rfl) rfl #[.pointer (some ⟨g104, 0, none⟩), .int .i64 t105] (by rfl) rfl rfl ul ?_; with_reducible refine (spec_l30Rd_pick.calls k g104 t102 t110 t105 t112 t113 w _ ?side1 ?side2 A4.out).mono ?_
   (case side1 => exact uI2 HI104 NB104_101.out NB104_111.out); (case side2 => exact uB3 HB (IsS91.ge HI104.out) GE101.out GE111.out); rintro e w18 ⟨rfl, hi, hb, hk⟩; refine ⟨_, rfl, ?_⟩; replace BK101 := Aside0.mk (KeepBut.blk hk (g' := gb101) (o := .cells #[.int .i64 0, .int .i64 0, .slice none 0 0] 25 (0, 0)) (ub BK101) NB101_104.out (by simp)); replace HO109 := Aside0.mk (Kd.R_mono (Kd.R_keep (IsS91.apart (show IsS91 w _ g104 t102 t110 from uI2 HI104 NB104_101.out NB104_111.out) (ur HO109) (by decide)) hk (fun _ h => h.2)) (fun _ h => h.1)); replace BK111 := Aside0.mk (KeepBut.blk hk (g' := gb111) (o := .cells #[.int .i64 t105, .int .i64 t106, .slice Ao13 t107.length co13] 25 (0, 0)) (ub BK111) NB111_104.out (by simp)); replace HO116 := Aside0.mk (Kd.R_mono (Kd.R_keep (IsS91.apart (show IsS91 w _ g104 t102 t110 from uI2 HI104 NB104_101.out NB104_111.out) (ur HO116) (by decide)) hk (fun _ h => h.2)) (fun _ h => h.1)); replace HB := Aside0.mk (hb); replace HI104 := Aside0.mk (hi); (try clear hb); (try clear hb2); (try clear hk); (try clear hi); refine hK.out _ _ (b3_ BK111) (fun hHeld => ?_); clear hK K; refine nz ?_
   exact norm_ (by simp only [putAll, Act.put, List.setIfInBounds_toArray, List.set_cons_zero, List.set_cons_succ]) (hCont (v115) _ ⟨hHeld, (ur HO109), (ur HO116), (ub BK101), (ub BK111), (uI2 HI104 NB104_101.out NB104_111.out), (uB3 HB (IsS91.ge HI104.out) GE101.out GE111.out)⟩)
 rintro v115 w19 ⟨hS_, h0_, h1_, h2_, h3_, h4_, h5_⟩
 have n0_ : Aside0 (Kd.R k32 32 w19 w.heap.size (fun _ => True) (.slice Ao13 t107.length co13) t107) := ⟨h0_⟩
 have n1_ : Aside0 (Kd.R (Kd.int .i64) 3 w19 w.heap.size (fun _ => True) v115 y114) := ⟨h1_⟩
 have n2_ : Aside0 (w19.heap[gb101]? = some (.cells #[.int .i64 0, .int .i64 0, .slice none 0 0] 25 (0, 0))) := ⟨h2_⟩
 have n3_ : Aside0 (w19.heap[gb111]? = some (.cells #[.int .i64 t105, .int .i64 t106, .slice Ao13 t107.length co13] 25 (0, 0))) := ⟨h3_⟩
 have n4_ : Aside0 (IsS91 w w19 g104 t102 t113) := ⟨h4_⟩
 have n5_ : Aside0 (Below w.heap.size w w19) := ⟨h5_⟩
 clear HO109
 clear BK101
 clear BK111
 clear HI104
 clear HB
 clear h0_ h1_ h2_ h3_ h4_ h5_
 have HO109 := n0_
 have HO116 := n1_
 have BK101 := n2_
 have BK111 := n3_
 have HI104 := n4_
 have HB := n5_
 clear n0_ n1_ n2_ n3_ n4_ n5_
 have hHeld : w19.cell? ⟨gb111, 0, none⟩ = some (.int .i64 t105) ∧ w19.cell? ⟨gb111, 1, none⟩ = some (.int .i64 t106) ∧ w19.cell? ⟨gb111, 2, none⟩ = some (.slice Ao13 t107.length co13) := hS_
 obtain ⟨Ao20, co20, eo20⟩ := Kd.R_slice HO116.out
 (first | subst eo20 | (injection eo20 with f1_ f2_ f3_; have f4_ := f1_.symm; have f5_ := f3_.symm; clear f1_ f2_ f3_; subst f4_; subst f5_))
 refine norm_ (a' := ?_) ?_ ?_
 rotate_left
 ·
  simp only [putAll, Act.put, List.setIfInBounds_toArray, List.set_cons_zero, List.set_cons_succ]; rfl
 refine qo HT_ 7 (fun K hK => ?_)
 refine goes_ Try.func61 (by kernel_rfl) rfl #[.pointer (some ⟨g104, 0, none⟩), .slice Ao20 y114.length co20] (by rfl) rfl rfl ul ?_
 with_reducible refine (spec_l30Rd_one.calls k g104 t102 t113 _ _ y114 t117 t118 w _ ?side1 ?side2 ?side3 ?side4 ?side5 A5.out).mono ?_
 (case side1 => exact uI2 HI104 NB104_101.out NB104_111.out)
 (case side2 => exact uB3 HB (IsS91.ge HI104.out) GE101.out GE111.out)
 (case side3 => exact uD (Kd.R_reads' HO116.out).2.2)
 (case side4 => exact (Kd.R_reads' HO116.out).2.1)
 (case side5 => exact far_slice (IsS91.own_ne HI104.out HO116.out (by decide)))
 rintro e w21 ⟨rfl, hi, hb, hk⟩
 refine ⟨_, rfl, ?_⟩
 have n0_ := Aside0.mk (KeepBut.blk hk (g' := gb101) (o := .cells #[.int .i64 0, .int .i64 0, .slice none 0 0] 25 (0, 0)) (ub BK101) NB101_104.out (by simp))
 have n1_ := Aside0.mk (Kd.R_mono (Kd.R_keep (IsS91.apart (show IsS91 w _ g104 t102 t113 from uI2 HI104 NB104_101.out NB104_111.out) (ur HO109) (by decide)) hk (fun _ h => h.2)) (fun _ h => h.1))
 have n2_ := Aside0.mk (KeepBut.blk hk (g' := gb111) (o := .cells #[.int .i64 t105, .int .i64 t106, .slice Ao13 t107.length co13] 25 (0, 0)) (ub BK111) NB111_104.out (by simp))
 have n3_ := Aside0.mk (Kd.R_mono (Kd.R_keep (IsS91.apart (show IsS91 w _ g104 t102 t113 from uI2 HI104 NB104_101.out NB104_111.out) (ur HO116) (by decide)) hk (fun _ h => h.2)) (fun _ h => h.1))
 have n4_ := Aside0.mk (hb)
 have n5_ := Aside0.mk (hi)
 clear BK101
 clear HO109
 clear BK111
 clear HO116
 clear HB
 clear HI104
 have BK101 := n0_
 have HO109 := n1_
 have BK111 := n2_
 have HO116 := n3_
 have HB := n4_
 have HI104 := n5_
 clear n0_ n1_ n2_ n3_ n4_ n5_
 (try clear hb)
 (try clear hb2)
 (try clear hk)
 (try clear hi)
 refine hK.out _ _ (b3_ BK111) (fun hHeld => ?_)
 clear hK K
 refine norm_ (a' := ?_) ?_ ?_
 rotate_left
 ·
  show Act.put _ (some 18) _ = _
  simp only [Act.put, List.setIfInBounds_toArray, List.set_cons_zero, List.set_cons_succ, i64_w, i32_w]; rfl
 refine qo HT_ 8 (fun K hK => ?_)
 have hs22 : w21.cell? ⟨gb101, 0, none⟩ = some (.int .i64 0) := (blk_cell BK101.out 0).trans rfl
 have hfs22 := blk_frozen BK101.out 0
 have hns22_1 := NB111_101.out
 have hms22_1 := NB101_111.out
 have hs23 : w21.cell? ⟨gb101, 1, none⟩ = some (.int .i64 0) := (blk_cell BK101.out 1).trans rfl
 have hfs23 := blk_frozen BK101.out 1
 have hns23_1 := NB111_101.out
 have hms23_1 := NB101_111.out
 have hs24 : w21.cell? ⟨gb101, 2, none⟩ = some (.slice none 0 0) := (blk_cell BK101.out 2).trans rfl
 have hfs24 := blk_frozen BK101.out 2
 have hns24_1 := NB111_101.out
 have hms24_1 := NB101_111.out
 refine skip_ (w1 := ?_) (by rfl) rfl ?_ ?_
 rotate_left
 ·
  go_simp; rfl
 refine hK.out _ _ ⟨((cell_far (p := ⟨gb101, _, none⟩) NB111_101.out _).trans (((cell_far (p := ⟨gb101, _, none⟩) NB111_101.out _).trans (((cell_far (p := ⟨gb101, _, none⟩) NB111_101.out _).trans (hHeld.1)))))), ((cell_far (p := ⟨gb101, _, none⟩) NB111_101.out _).trans (((cell_far (p := ⟨gb101, _, none⟩) NB111_101.out _).trans (((cell_far (p := ⟨gb101, _, none⟩) NB111_101.out _).trans (hHeld.2.1)))))), ((cell_far (p := ⟨gb101, _, none⟩) NB111_101.out _).trans (((cell_far (p := ⟨gb101, _, none⟩) NB111_101.out _).trans (((cell_far (p := ⟨gb101, _, none⟩) NB111_101.out _).trans (hHeld.2.2))))))⟩ (fun hHeld => ?_)
 clear hK K
 refine pure_ (i := 9) (N := some 3) (v := ?_) (a' := ?_) (zt 11 1023) rfl rfl (any_of HT_.out (by kernel_rfl)) (fun _ _ _ h => h) (Or.inl ⟨by rfl, ?_⟩) ?_ ?_
 rotate_left
 (intro w'; go_simp; with_reducible rfl)
 rotate_left
 (simp only [Act.put, List.setIfInBounds_toArray, List.set_cons_zero, List.set_cons_succ, i64_w, i32_w]; rfl)
 refine pure_ (i := 10) (N := some 4) (v := ?_) (a' := ?_) (zt 11 2047) rfl rfl (any_of HT_.out (by kernel_rfl)) (fun _ _ _ h => h) (Or.inl ⟨by rfl, ?_⟩) ?_ ?_
 rotate_left
 (intro w'; go_simp; with_reducible rfl)
 rotate_left
 (simp only [Act.put, List.setIfInBounds_toArray, List.set_cons_zero, List.set_cons_succ, i64_w, i32_w]; rfl)
 refine done_ (done_of HT_.out (by kernel_rfl)) ?_
 try go_wp2
 refine bodyPost_ret (results_ctt rfl _ _ gb101 25 #[.int .i64 t105, .int .i64 t106, .slice Ao13 t107.length co13] (0, 0) _ rfl (by (with_reducible repeat first | apply zbn | apply zbd | apply zba); refine pu3 (.int .i64 0) (.int .i64 0) (.slice none 0 0) ?_; exact ub BK101) Try.underlying25 rfl (by kernel_rfl)) rfl ?_
 exact ⟨_, by first | rfl | (simp [errW_none, errW_some] <;> rfl) | (simp [*, errW_none, errW_some] <;> rfl), by (with_reducible repeat (first | apply Kd.R_alloc | apply Kd.R_drewN | apply Kd.R_drew)); exact Kd.R_mono (rf3 HO109 BK101) (fun _ hk => trivial), uB3 HB (IsS91.ge HI104.out) GE101.out GE111.out⟩

end Go.Proofs.Ytcklifkbodmoaaa.P
