-- written for this claim by a program (wip/gen/myprint.py over the print tool). Not trusted: Lean checks it.
import Derived.Test.YtblpdfgplifccaaPx0
import Derived.Test.YtblpdfgplifccaaHUp
import Derived.Test.YtblpdfgplifccaaPFSpecL30Open
import Derived.Test.YtblpdfgplifccaaPFSpecL30Anynet
import Derived.Test.YtblpdfgplifccaaPFSpecL30Part
namespace Go.Proofs.Ytblpdfgplifccaa.P
open Go.RowKit Go.Proofs.YtblpdfgplifccaaV.PrintWords Go.Proofs.YtblpdfgplifccaaV.PrintLast
set_option linter.unusedVariables false
set_option linter.unusedSimpArgs false

/-! ### spec_DrawPartEdges: function 35 -/
def spec_DrawPartEdges.f (k : Nat) (l0 : List Int) : Option (Int × (List (S33)) × List Int) := (spec_l30Open.f l0).bind fun bt102 => ((spec_l30AnyNet.f k bt102.1 bt102.2).bind fun bt105 => ((spec_l30Part.f k bt102.1 bt105.2.2 bt105.1 bt105.2.1).bind fun bt111 => (some (bt105.1, bt105.2.1, bt111.1))))
set_option maxHeartbeats 8000000 in
set_option maxRecDepth 100000 in
theorem spec_DrawPartEdges.calls (k : Nat) (A0 : Option Addr) (c0 : Nat) (l0 : List Int) (r1 : Int) (r2 : List (S33)) (r3 : List Int) (w : World) (hr0 : Kd.C (Kd.int .u8) w A0 l0.length l0) (hc0 : l0.length ≤ c0) (h : spec_DrawPartEdges.f k l0 = some (r1, r2, r3)) :
  Calls Try.prog 35 #[.slice A0 l0.length c0] w fun e w' => ∃ v1_ v2_ : Value, e = .returned (.tuple #[.agg #[.int .i64 r1, v1_], v2_]) ∧ Kd.R k33 33 w' w.heap.size (fun _ => True) v1_ r2 ∧ Kd.R (Kd.int .i64) 3 w' w.heap.size (fun _ => True) v2_ r3 ∧ Below w.heap.size w w' := by
 have hu25 := Try.underlying25
 have HR0 := Aside0.mk hr0
 have HC0 := Aside0.mk hc0
 clear hr0 hc0
 have HB := Aside0.mk (Below.refl w.heap.size w)
 have H : ((spec_l30Open.f l0).bind fun bt102 => ((spec_l30AnyNet.f k bt102.1 bt102.2).bind fun bt105 => ((spec_l30Part.f k bt102.1 bt105.2.2 bt105.1 bt105.2.1).bind fun bt111 => (some (bt105.1, bt105.2.1, bt111.1))))) = some (r1, r2, r3) := h
 clear h
 replace H := Option.bind_eq_some_iff.mp H
 obtain ⟨⟨t102, t103⟩, A20, H⟩ := H
 replace H : ((spec_l30AnyNet.f k t102 t103).bind fun bt105 => ((spec_l30Part.f k t102 bt105.2.2 bt105.1 bt105.2.1).bind fun bt111 => (some (bt105.1, bt105.2.1, bt111.1)))) = some (r1, r2, r3) := H
 have A2 := Aside0.mk A20
 clear A20
 replace H := Option.bind_eq_some_iff.mp H
 obtain ⟨⟨t105, t106, t109⟩, A30, H⟩ := H
 replace H : ((spec_l30Part.f k t102 t109 t105 t106).bind fun bt111 => (some (t105, t106, bt111.1))) = some (r1, r2, r3) := H
 have A3 := Aside0.mk A30
 clear A30
 replace H := Option.bind_eq_some_iff.mp H
 obtain ⟨⟨t111, t114⟩, A40, H⟩ := H
 replace H : (some (t105, t106, t111)) = some (r1, r2, r3) := H
 have A4 := Aside0.mk A40
 clear A40
 simp only [Option.some.injEq, Prod.mk.injEq] at H
 obtain ⟨rfl, rfl, rfl⟩ := H
 go_enter Try.func35, Try.ntmps35
 try go_wp2_with (first | ((with_reducible refine gate_dst (N := 2) rfl ?_); refine be (cs := #[.int .i64 0, .slice none 0 0]) (t := 25) ?_; intro gb101 hg w5 hbox hb; have BK101 := Aside0.mk (hbox); have GW101 := gz w hg (uB0 HB); have GE101 := gz w hg (uB0 HB); replace HB := Aside0.mk (below_step (uB0 HB) hb); clear hb hbox hg) | ((with_reducible refine gate_callee (f := 55) rfl ?_); refine goesL_ (some 7) rfl rfl Try.func55 (by kernel_rfl) rfl #[.slice A0 l0.length c0] rfl ul ?_; (with_reducible refine (spec_l30Open.calls _ _ l0 t102 t103 w _ ?side1 ?side2 ?side3 A2.out).mono ?_); (case side1 => exact uB1 HB GE101.out); (case side2 => exact HR0.out); (case side3 => exact HC0.out); rintro e w6 ⟨g104, rfl, hi, hb, hb2⟩; refine ⟨_, rfl, ?_⟩; replace HB := Aside0.mk (hb); have HI104 := Aside0.mk (hi); have NB104_101 := Aside0.mk (IsS91.ne_blk hi (blk_below (g := gb101) (o := .cells #[.int .i64 0, .slice none 0 0] 25 (0, 0)) (ub BK101) hb2) (by decide)); have NB101_104 := Aside0.mk (Ne.symm (IsS91.ne_blk hi (blk_below (g := gb101) (o := .cells #[.int .i64 0, .slice none 0 0] 25 (0, 0)) (ub BK101) hb2) (by decide))); replace BK101 := Aside0.mk (blk_below (g := gb101) (o := .cells #[.int .i64 0, .slice none 0 0] 25 (0, 0)) (ub BK101) hb2); (try clear hb); (try clear hb2); (try clear hk); (try clear hi)) | ((with_reducible refine gate_callee (f := 56) rfl ?_); refine goesL_ (some 9) rfl rfl Try.func56 (by kernel_rfl) rfl #[.pointer (some ⟨g104, 0, none⟩)] rfl ul ?_; (with_reducible refine (spec_l30AnyNet.calls k g104 t102 t103 t105 t106 t109 w _ ?side1 ?side2 A3.out).mono ?_); (case side1 => exact uI1 HI104 NB104_101.out); (case side2 => exact uB2 HB (IsS91.ge HI104.out) GE101.out); rintro e w7 ⟨v107, rfl, ho0, hi, hb, hk⟩; refine ⟨_, rfl, ?_⟩; replace BK101 := Aside0.mk (KeepBut.blk hk (g' := gb101) (o := .cells #[.int .i64 0, .slice none 0 0] 25 (0, 0)) (ub BK101) NB101_104.out (by simp)); have HO108 := Aside0.mk (Kd.R_lower ho0 (below_size (uB2 HB (IsS91.ge HI104.out) GE101.out))); replace HB := Aside0.mk (hb); replace HI104 := Aside0.mk (hi); (try clear hb); (try clear hb2); (try clear hk); (try clear hi); (try clear ho0)) | ((with_reducible refine gate_dst (N := 5) rfl ?_); refine be (cs := #[.int .i64 0, .slice none 0 0]) (t := 25) ?_; intro gb110 hg w8 hbox hb; replace HO108 := Aside0.mk (Kd.R_below (ur HO108) hb); have BK110 := Aside0.mk (hbox); have GW110 := Aside0.mk ((by rw [hg]; exact (below_size (uB2 HB (IsS91.ge HI104.out) GE101.out)) : w.heap.size ≤ gb110)); have GE110 := Aside0.mk ((by rw [hg]; exact (below_size (uB2 HB (IsS91.ge HI104.out) GE101.out)) : w.heap.size ≤ gb110)); replace HB := Aside0.mk (below_step (uB2 HB (IsS91.ge HI104.out) GE101.out) hb); have NB101_110 := gl hg BK101; have NB110_101 := gr hg BK101; replace BK101 := bb BK101 hb; have NB104_110 := Aside0.mk ((by rw [hg]; exact Nat.ne_of_lt (IsS91.lt (show IsS91 w _ g104 t102 t109 from uI1 HI104 NB104_101.out)) : g104 ≠ gb110)); have NB110_104 := Aside0.mk ((by rw [hg]; exact Nat.ne_of_gt (IsS91.lt (show IsS91 w _ g104 t102 t109 from uI1 HI104 NB104_101.out)) : gb110 ≠ g104)); replace HI104 := Aside0.mk (IsS91.below (uI1 HI104 NB104_101.out) hb); clear hb hbox hg; have hnb9 := NB110_101.out; have hnc9 := NB101_110.out; have hnb10 := NB110_104.out; have hnc10 := NB104_110.out; obtain ⟨hcz11_0, hcz11_1, hfz11_0, hfz11_1⟩ := bc2 BK110; obtain ⟨Ao12, co12, eo12⟩ := Kd.R_slice HO108.out; subst eo12))
 have n0_ : Aside0 (Kd.R k33 33 ((w8.setCell ⟨gb110, 0, none⟩ (.int .i64 t105)).setCell ⟨gb110, 1, none⟩ (.slice Ao12 t106.length co12)) w.heap.size (fun _ => True) (.slice Ao12 t106.length co12) t106) := ⟨by (with_reducible repeat (first | apply Kd.R_alloc | apply Kd.R_drewN | apply Kd.R_drew)); exact Kd.R_mono (rf2 HO108 BK110) (fun _ hk => trivial)⟩
 have n1_ : Aside0 (((w8.setCell ⟨gb110, 0, none⟩ (.int .i64 t105)).setCell ⟨gb110, 1, none⟩ (.slice Ao12 t106.length co12)).heap[gb101]? = some (.cells #[.int .i64 0, .slice none 0 0] 25 (0, 0))) := ⟨by (with_reducible repeat first | apply zbn | apply zbd | apply zba); refine fa2 ?_ NB101_110; exact ub BK101⟩
 have n2_ : Aside0 (((w8.setCell ⟨gb110, 0, none⟩ (.int .i64 t105)).setCell ⟨gb110, 1, none⟩ (.slice Ao12 t106.length co12)).heap[gb110]? = some (.cells #[.int .i64 t105, .slice Ao12 t106.length co12] 25 (0, 0))) := ⟨by (with_reducible repeat first | apply zbn | apply zbd | apply zba); refine pu2 (.int .i64 0) (.slice none 0 0) ?_; exact ub BK110⟩
 have n3_ : Aside0 (IsS91 w ((w8.setCell ⟨gb110, 0, none⟩ (.int .i64 t105)).setCell ⟨gb110, 1, none⟩ (.slice Ao12 t106.length co12)) g104 t102 t109) := ⟨uI2 HI104 NB104_101.out NB104_110.out⟩
 have n4_ : Aside0 (Below w.heap.size w ((w8.setCell ⟨gb110, 0, none⟩ (.int .i64 t105)).setCell ⟨gb110, 1, none⟩ (.slice Ao12 t106.length co12))) := ⟨uB3 HB (IsS91.ge HI104.out) GE101.out GE110.out⟩
 (try clear HO108)
 (try clear BK101)
 (try clear BK110)
 (try clear HI104)
 (try clear HB)
 generalize ((w8.setCell ⟨gb110, 0, none⟩ (.int .i64 t105)).setCell ⟨gb110, 1, none⟩ (.slice Ao12 t106.length co12)) = w13 at n0_ n1_ n2_ n3_ n4_ ⊢
 have HO108 := n0_
 have BK101 := n1_
 have BK110 := n2_
 have HI104 := n3_
 have HB := n4_
 clear n0_ n1_ n2_ n3_ n4_
 have n0_ := Aside0.mk (Kd.R_drew HO108.out)
 have n1_ := Aside0.mk (blk_drew BK101.out)
 have n2_ := Aside0.mk (blk_drew BK110.out)
 have n3_ := Aside0.mk (IsS91.drew HI104.out)
 have n4_ := Aside0.mk (below_drew1 HB.out)
 clear HO108
 clear BK101
 clear BK110
 clear HI104
 clear HB
 have HO108 := n0_
 have BK101 := n1_
 have BK110 := n2_
 have HI104 := n3_
 have HB := n4_
 clear n0_ n1_ n2_ n3_ n4_
 refine start_ (n := 6) (S := fun w' => w'.cell? ⟨gb110, 0, none⟩ = some (.int .i64 t105) ∧ w'.cell? ⟨gb110, 1, none⟩ = some (.slice Ao12 t106.length co12)) (ds := []) (zt 6 0) (by kernel_rfl) rfl (by kernel_rfl) (b2_ BK110) (fun hHeld => ?_)
 generalize w13.drew = w14 at HO108 BK101 BK110 HI104 HB hHeld ⊢
 refine pure_ (i := 1) (N := some 11) (v := ?_) (a' := ?_) (zt 6 2) rfl rfl (by kernel_rfl) (fun _ _ _ h => h) (Or.inl ⟨by rfl, ?_⟩) ?_ ?_
 rotate_left
 (intro w'; go_simp; with_reducible rfl)
 rotate_left
 (simp only [Act.put, List.setIfInBounds_toArray, List.set_cons_zero, List.set_cons_succ, i64_w, i32_w]; rfl)
 refine take_ (i := 0) (N := some 10) (v := ?_) (a' := ?_) (zt 6 3) rfl rfl (by kernel_rfl) (fun _ _ _ h => h) (Or.inl ⟨by rfl, ?_⟩) hHeld ?_ ?_
 rotate_left
 (rintro w' ⟨s0, s1⟩; go_simp; with_reducible rfl)
 rotate_left
 (simp only [Act.put, List.setIfInBounds_toArray, List.set_cons_zero, List.set_cons_succ, i64_w, i32_w]; rfl)
 refine take_ (i := 2) (N := some 12) (v := ?_) (a' := ?_) (zt 6 7) rfl rfl (by kernel_rfl) (fun _ _ _ h => h) (Or.inl ⟨by rfl, ?_⟩) hHeld ?_ ?_
 rotate_left
 (rintro w' ⟨s0, s1⟩; go_simp; with_reducible rfl)
 rotate_left
 (simp only [Act.put, List.setIfInBounds_toArray, List.set_cons_zero, List.set_cons_succ, i64_w, i32_w]; rfl)
 refine one_ (i := 3) (N := some 13) (zt 6 15) rfl rfl (by kernel_rfl) (by decide) (fun K hK => ?_)
 refine goes_ Try.func78 (by kernel_rfl) rfl #[.pointer (some ⟨g104, 0, none⟩), .agg #[.int .i64 t105, .slice Ao12 t106.length co12]] (by rfl) rfl rfl ul ?_
 with_reducible refine (spec_l30Part.calls k g104 t102 t109 t105 _ _ t106 t111 t114 w _ ?side1 ?side2 ?side3 ?side4 A4.out).mono ?_
 (case side1 => exact uI2 HI104 NB104_101.out NB104_110.out)
 (case side2 => exact uB3 HB (IsS91.ge HI104.out) GE101.out GE110.out)
 (case side3 => exact Kd.C_foot_own (IsS91.apart (show IsS91 w _ g104 t102 t109 from uI2 HI104 NB104_101.out NB104_110.out) (ur HO108) (by decide)) (fun _ h_ => h_.2))
 (case side4 => exact (Kd.R_reads' HO108.out).2.1)
 rintro e w15 ⟨v112, rfl, ho0, hi, hb, hk⟩
 refine ⟨_, rfl, ?_⟩
 have n0_ := Aside0.mk (KeepBut.blk hk (g' := gb101) (o := .cells #[.int .i64 0, .slice none 0 0] 25 (0, 0)) (ub BK101) NB101_104.out (by simp))
 have n1_ := Aside0.mk (Kd.R_mono (Kd.R_keep (IsS91.apart (show IsS91 w _ g104 t102 t109 from uI2 HI104 NB104_101.out NB104_110.out) (ur HO108) (by decide)) hk (fun _ h => h.2)) (fun _ h => h.1))
 have n2_ := Aside0.mk (KeepBut.blk hk (g' := gb110) (o := .cells #[.int .i64 t105, .slice Ao12 t106.length co12] 25 (0, 0)) (ub BK110) NB110_104.out (by simp))
 have n3_ := Aside0.mk (Kd.R_lower ho0 (below_size (uB3 HB (IsS91.ge HI104.out) GE101.out GE110.out)))
 have n4_ := Aside0.mk (hb)
 have n5_ := Aside0.mk (hi)
 clear BK101
 clear HO108
 clear BK110
 clear HB
 clear HI104
 have BK101 := n0_
 have HO108 := n1_
 have BK110 := n2_
 have HO113 := n3_
 have HB := n4_
 have HI104 := n5_
 clear n0_ n1_ n2_ n3_ n4_ n5_
 (try clear hb)
 (try clear hb2)
 (try clear hk)
 (try clear hi)
 (try clear ho0)
 refine hK.out _ _ (b2_ BK110) (fun hHeld => ?_)
 clear hK K
 refine norm_ (a' := ?_) ?_ ?_
 rotate_left
 ·
  show Act.put _ (some 13) _ = _
  simp only [Act.put, List.setIfInBounds_toArray, List.set_cons_zero, List.set_cons_succ, i64_w, i32_w]; rfl
 refine one_ (i := 4) (N := none) (zt 6 31) rfl rfl (by kernel_rfl) (by decide) (fun K hK => ?_)
 have hs16 : w15.cell? ⟨gb101, 0, none⟩ = some (.int .i64 0) := (blk_cell BK101.out 0).trans rfl
 have hfs16 := blk_frozen BK101.out 0
 have hns16_1 := NB110_101.out
 have hms16_1 := NB101_110.out
 have hs17 : w15.cell? ⟨gb101, 1, none⟩ = some (.slice none 0 0) := (blk_cell BK101.out 1).trans rfl
 have hfs17 := blk_frozen BK101.out 1
 have hns17_1 := NB110_101.out
 have hms17_1 := NB101_110.out
 refine skip_ (w1 := ?_) (by rfl) rfl ?_ ?_
 rotate_left
 ·
  go_simp; rfl
 refine hK.out _ _ ⟨((cell_far (p := ⟨gb101, _, none⟩) NB110_101.out _).trans (((cell_far (p := ⟨gb101, _, none⟩) NB110_101.out _).trans (hHeld.1)))), ((cell_far (p := ⟨gb101, _, none⟩) NB110_101.out _).trans (((cell_far (p := ⟨gb101, _, none⟩) NB110_101.out _).trans (hHeld.2))))⟩ (fun hHeld => ?_)
 clear hK K
 refine pure_ (i := 5) (N := some 3) (v := ?_) (a' := ?_) (zt 6 63) rfl rfl (by kernel_rfl) (fun _ _ _ h => h) (Or.inl ⟨by rfl, ?_⟩) ?_ ?_
 rotate_left
 (intro w'; go_simp; with_reducible rfl)
 rotate_left
 (simp only [Act.put, List.setIfInBounds_toArray, List.set_cons_zero, List.set_cons_succ, i64_w, i32_w]; rfl)
 refine done_ (by kernel_rfl) ?_
 try go_wp2
 refine bodyPost_ret (results_ct rfl _ _ gb101 25 #[.int .i64 t105, .slice Ao12 t106.length co12] (0, 0) _ rfl (by (with_reducible repeat first | apply zbn | apply zbd | apply zba); refine pu2 (.int .i64 0) (.slice none 0 0) ?_; exact ub BK101) Try.underlying25 rfl (by kernel_rfl)) rfl ?_
 exact ⟨_, _, by first | rfl | (simp [errW_none, errW_some] <;> rfl) | (simp [*, errW_none, errW_some] <;> rfl), by (with_reducible repeat (first | apply Kd.R_alloc | apply Kd.R_drewN | apply Kd.R_drew)); exact Kd.R_mono (rf2 HO108 BK101) (fun _ hk => trivial), by (with_reducible repeat (first | apply Kd.R_alloc | apply Kd.R_drewN | apply Kd.R_drew)); exact Kd.R_mono (rf2 HO113 BK101) (fun _ hk => trivial), uB3 HB (IsS91.ge HI104.out) GE101.out GE110.out⟩

end Go.Proofs.Ytblpdfgplifccaa.P
