-- written for this claim by a program (wip/gen/myprint.py over the print tool). Not trusted: Lean checks it.
import Derived.Test.YtjmpngfgfddpaaaPx0
import Derived.Test.YtjmpngfgfddpaaaHUp
import Derived.Test.YtjmpngfgfddpaaaPFSpecL30Open
import Derived.Test.YtjmpngfgfddpaaaPFSpecL30RdPick
import Derived.Test.YtjmpngfgfddpaaaPFSpecL30Anynet
import Derived.Test.YtjmpngfgfddpaaaGBase
import Derived.Test.YtjmpngfgfddpaaaPFSpecL3All
import Derived.Test.YtjmpngfgfddpaaaGDist
namespace Go.Proofs.Ytjmpngfgfddpaaa.P
open Go.RowKit Go.Proofs.YtjmpngfgfddpaaaV.PrintWords Go.Proofs.YtjmpngfgfddpaaaV.PrintLast
set_option linter.unusedVariables false
set_option linter.unusedSimpArgs false

/-! ### spec_DrawCostLift: function 81 -/
mutual
def spec_DrawCostLift.j0 : Nat → Bool → List Int → Int → Int → List (S33) → Option (Int × (List (S33)) × List Int)
 | 0, _, _, _, _, _ => none
 | k + 1, x20, x105000, x105001, x111000, x111001 => if x20 = true then ((spec_l1Back.f k x111000 x111001).bind fun bt114 => ((spec_l30Rd_pick.f k x105000 x105001 x111000).bind fun bt118 => ((spec_l3All.f k bt114.1 bt114.2 bt118.1).bind fun t120 => (spec_DrawCostLift.l0 k t120 0 x111000 x111001)))) else (spec_DrawCostLift.l1 k (([] : List Int)) 0 x105000 x105001 x111000 x111001)
def spec_DrawCostLift.l0 : Nat → List Int → Int → Int → List (S33) → Option (Int × (List (S33)) × List Int)
 | 0, _, _, _, _ => none
 | k + 1, x6, x7, x111000, x111001 => if x7 < (x6.length : Int) then (if 0 ≤ x7 then (if (rd x6 x7) > 99 then (spec_DrawCostLift.l0 k (x6.set (x7 : Int).toNat 99) (wrap64 (x7 + 1)) x111000 x111001) else (spec_DrawCostLift.l0 k x6 (wrap64 (x7 + 1)) x111000 x111001)) else (none)) else (some (x111000, x111001, x6))
def spec_DrawCostLift.l1 : Nat → List Int → Int → List Int → Int → Int → List (S33) → Option (Int × (List (S33)) × List Int)
 | 0, _, _, _, _, _, _ => none
 | k + 1, x8, x9, x105000, x105001, x111000, x111001 => if x9 < x111000 then ((spec_l30Rd_pick.f k x105000 x105001 6).bind fun bt128 => (if x8.length < 17592186044416 then (spec_DrawCostLift.l1 k (x8 ++ [bt128.1]) (wrap64 (x9 + 1)) x105000 bt128.2 x111000 x111001) else (none))) else (some (x111000, x111001, x8))
end
def spec_DrawCostLift.f (k : Nat) (l0 : List Int) : Option (Int × (List (S33)) × List Int) := (spec_l30Open.f l0).bind fun bt102 => ((spec_l30AnyNet.f k bt102.1 bt102.2).bind fun bt105 => ((spec_l1Ok.f k bt105.1 bt105.2.1).bind fun t111 => (if t111 = true then ((spec_l30Rd_pick.f k bt102.1 bt105.2.2 3).bind fun bt112 => (spec_DrawCostLift.j0 k (decide (bt112.1 > 0)) bt102.1 bt112.2 bt105.1 bt105.2.1)) else (spec_DrawCostLift.j0 k false bt102.1 bt105.2.2 bt105.1 bt105.2.1))))
def spec_DrawCostLift.T4 : Bool × List (List Nat × List Nat) := (true, [([], []), ([0], [0]), ([], []), ([], []), ([3], [3]), ([2, 4, 1], [2, 4]), ([1, 5, 5], [1, 5]), ([6, 6, 0, 1, 2, 3, 4, 5, 6], [6])])
def spec_DrawCostLift.B4 : List Nat := [0, 1, 0, 0, 8, 31, 63, 127]
theorem spec_DrawCostLift.tab4 : rtab .any (opsOf Try.f81 4) = spec_DrawCostLift.T4 := by kernel_rfl
theorem spec_DrawCostLift.bits4 : waitsOk spec_DrawCostLift.T4.2 spec_DrawCostLift.B4 = true := by kernel_rfl
set_option maxHeartbeats 8000000 in
set_option maxRecDepth 100000 in
theorem spec_DrawCostLift.calls (k : Nat) (A0 : Option Addr) (c0 : Nat) (l0 : List Int) (r1 : Int) (r2 : List (S33)) (r3 : List Int) (w : World) (hr0 : Kd.C (Kd.int .u8) w A0 l0.length l0) (hc0 : l0.length ≤ c0) (h : spec_DrawCostLift.f k l0 = some (r1, r2, r3)) :
  Calls Try.prog 81 #[.slice A0 l0.length c0] w fun e w' => ∃ v1_ v2_ : Value, e = .returned (.tuple #[.agg #[.int .i64 r1, v1_], v2_]) ∧ Kd.R k33 33 w' w.heap.size (fun _ => True) v1_ r2 ∧ Kd.R (Kd.int .i64) 3 w' w.heap.size (fun _ => True) v2_ r3 ∧ Below w.heap.size w w' := by
 have hu25 := Try.underlying25
 have HR0 := Aside0.mk hr0
 have HC0 := Aside0.mk hc0
 clear hr0 hc0
 have HB := Aside0.mk (Below.refl w.heap.size w)
 have H : ((spec_l30Open.f l0).bind fun bt102 => ((spec_l30AnyNet.f k bt102.1 bt102.2).bind fun bt105 => ((spec_l1Ok.f k bt105.1 bt105.2.1).bind fun t111 => (if t111 = true then ((spec_l30Rd_pick.f k bt102.1 bt105.2.2 3).bind fun bt112 => (spec_DrawCostLift.j0 k (decide (bt112.1 > 0)) bt102.1 bt112.2 bt105.1 bt105.2.1)) else (spec_DrawCostLift.j0 k false bt102.1 bt105.2.2 bt105.1 bt105.2.1))))) = some (r1, r2, r3) := h
 clear h
 replace H := Option.bind_eq_some_iff.mp H
 obtain ⟨⟨t102, t103⟩, A20, H⟩ := H
 replace H : ((spec_l30AnyNet.f k t102 t103).bind fun bt105 => ((spec_l1Ok.f k bt105.1 bt105.2.1).bind fun t111 => (if t111 = true then ((spec_l30Rd_pick.f k t102 bt105.2.2 3).bind fun bt112 => (spec_DrawCostLift.j0 k (decide (bt112.1 > 0)) t102 bt112.2 bt105.1 bt105.2.1)) else (spec_DrawCostLift.j0 k false t102 bt105.2.2 bt105.1 bt105.2.1)))) = some (r1, r2, r3) := H
 have A2 := Aside0.mk A20
 clear A20
 replace H := Option.bind_eq_some_iff.mp H
 obtain ⟨⟨t105, t106, t109⟩, A30, H⟩ := H
 replace H : ((spec_l1Ok.f k t105 t106).bind fun t111 => (if t111 = true then ((spec_l30Rd_pick.f k t102 t109 3).bind fun bt112 => (spec_DrawCostLift.j0 k (decide (bt112.1 > 0)) t102 bt112.2 t105 t106)) else (spec_DrawCostLift.j0 k false t102 t109 t105 t106))) = some (r1, r2, r3) := H
 have A3 := Aside0.mk A30
 clear A30
 have HC4 := Aside0.mk H
 clear H
 go_enter Try.func81, Try.ntmps81
 go_upto_region 3 with (first | ((with_reducible refine gate_dst (N := 2) rfl ?_); refine box_event ?hg (N := 2) ?hd (cs := #[.int .i64 0, .slice none 0 0]) (t := 25) ?hr ?_; (case hd => rfl); (case hg => rfl); (case hr => first | (go_simp; done) | (go_simp; rfl)); intro gb101 hg w5 hbox hb; have n0_ := Aside0.mk (below_step (uB0 HB) hb); have n1_ := Aside0.mk (hbox); have n2_ := Aside0.mk ((by rw [hg]; exact (below_size (uB0 HB)) : w.heap.size ≤ gb101)); have n3_ := Aside0.mk ((by rw [hg]; exact (below_size (uB0 HB)) : w.heap.size ≤ gb101)); clear HB; have HB := n0_; have BK101 := n1_; have GW101 := n2_; have GE101 := n3_; clear n0_ n1_ n2_ n3_; clear hb hbox hg) | ((with_reducible refine gate_callee (f := 97) rfl ?_); refine goesL_ (some 11) rfl rfl Try.func97 (by kernel_rfl) rfl #[.slice A0 l0.length c0] rfl ul ?_; (with_reducible refine (spec_l30Open.calls _ _ l0 t102 t103 w _ ?side1 ?side2 ?side3 A2.out).mono ?_); (case side1 => exact uB1 HB GE101.out); (case side2 => exact HR0.out); (case side3 => exact HC0.out); rintro e w6 ⟨g104, rfl, hi, hb, hb2⟩; refine ⟨_, rfl, ?_⟩; have n0_ := Aside0.mk (blk_below (g := gb101) (o := .cells #[.int .i64 0, .slice none 0 0] 25 (0, 0)) (ub BK101) hb2); have n1_ := Aside0.mk (hb); have n2_ := Aside0.mk (hi); have n3_ := Aside0.mk (IsS115.ne_blk hi (blk_below (g := gb101) (o := .cells #[.int .i64 0, .slice none 0 0] 25 (0, 0)) (ub BK101) hb2) (by decide)); have n4_ := Aside0.mk (Ne.symm (IsS115.ne_blk hi (blk_below (g := gb101) (o := .cells #[.int .i64 0, .slice none 0 0] 25 (0, 0)) (ub BK101) hb2) (by decide))); clear BK101; clear HB; have BK101 := n0_; have HB := n1_; have HI104 := n2_; have NB104_101 := n3_; have NB101_104 := n4_; clear n0_ n1_ n2_ n3_ n4_; (try clear hb); (try clear hb2); (try clear hk); (try clear hi)) | ((with_reducible refine gate_callee (f := 98) rfl ?_); refine goesL_ (some 13) rfl rfl Try.func98 (by kernel_rfl) rfl #[.pointer (some ⟨g104, 0, none⟩)] rfl ul ?_; (with_reducible refine (spec_l30AnyNet.calls k g104 t102 t103 t105 t106 t109 w _ ?side1 ?side2 A3.out).mono ?_); (case side1 => exact uI1 HI104 NB104_101.out); (case side2 => exact uB2 HB (IsS115.ge HI104.out) GE101.out); rintro e w7 ⟨v107, rfl, ho0, hi, hb, hk⟩; refine ⟨_, rfl, ?_⟩; have n0_ := Aside0.mk (KeepBut.blk hk (g' := gb101) (o := .cells #[.int .i64 0, .slice none 0 0] 25 (0, 0)) (ub BK101) NB101_104.out (by simp)); have n1_ := Aside0.mk (Kd.R_lower ho0 (below_size (uB2 HB (IsS115.ge HI104.out) GE101.out))); have n2_ := Aside0.mk (hb); have n3_ := Aside0.mk (hi); clear BK101; clear HB; clear HI104; have BK101 := n0_; have HO108 := n1_; have HB := n2_; have HI104 := n3_; clear n0_ n1_ n2_ n3_; (try clear hb); (try clear hb2); (try clear hk); (try clear hi); (try clear ho0)) | ((with_reducible refine gate_dst (N := 5) rfl ?_); refine box_event ?hg (N := 5) ?hd (cs := #[.int .i64 0, .slice none 0 0]) (t := 25) ?hr ?_; (case hd => rfl); (case hg => rfl); (case hr => first | (go_simp; done) | (go_simp; rfl)); intro gb110 hg w8 hbox hb; have n0_ := Aside0.mk (Kd.R_below (ur HO108) hb); have n1_ := Aside0.mk (blk_below (g := gb101) (o := .cells #[.int .i64 0, .slice none 0 0] 25 (0, 0)) (ub BK101) hb); have n2_ := Aside0.mk (IsS115.below (uI1 HI104 NB104_101.out) hb); have n3_ := Aside0.mk (below_step (uB2 HB (IsS115.ge HI104.out) GE101.out) hb); have n4_ := Aside0.mk (hbox); have n5_ := Aside0.mk ((by rw [hg]; exact (below_size (uB2 HB (IsS115.ge HI104.out) GE101.out)) : w.heap.size ≤ gb110)); have n6_ := Aside0.mk ((by rw [hg]; exact (below_size (uB2 HB (IsS115.ge HI104.out) GE101.out)) : w.heap.size ≤ gb110)); have n7_ := Aside0.mk ((by rw [hg]; exact Nat.ne_of_lt (blk_lt (g := gb101) (o := .cells #[.int .i64 0, .slice none 0 0] 25 (0, 0)) (ub BK101)) : gb101 ≠ gb110)); have n8_ := Aside0.mk ((by rw [hg]; exact Nat.ne_of_gt (blk_lt (g := gb101) (o := .cells #[.int .i64 0, .slice none 0 0] 25 (0, 0)) (ub BK101)) : gb110 ≠ gb101)); have n9_ := Aside0.mk ((by rw [hg]; exact Nat.ne_of_lt (IsS115.lt (show IsS115 w _ g104 t102 t109 from uI1 HI104 NB104_101.out)) : g104 ≠ gb110)); have n10_ := Aside0.mk ((by rw [hg]; exact Nat.ne_of_gt (IsS115.lt (show IsS115 w _ g104 t102 t109 from uI1 HI104 NB104_101.out)) : gb110 ≠ g104)); clear HO108; clear BK101; clear HI104; clear HB; have HO108 := n0_; have BK101 := n1_; have HI104 := n2_; have HB := n3_; have BK110 := n4_; have GW110 := n5_; have GE110 := n6_; have NB101_110 := n7_; have NB110_101 := n8_; have NB104_110 := n9_; have NB110_104 := n10_; clear n0_ n1_ n2_ n3_ n4_ n5_ n6_ n7_ n8_ n9_ n10_; clear hb hbox hg; have hnb9 := NB110_101.out; have hnc9 := NB101_110.out; have hnb10 := NB110_104.out; have hnc10 := NB104_110.out; have hcz11_0 : w8.cell? ⟨gb110, 0, none⟩ = some (.int .i64 0) := (blk_cell BK110.out 0).trans rfl; have hcz11_1 : w8.cell? ⟨gb110, 1, none⟩ = some (.slice none 0 0) := (blk_cell BK110.out 1).trans rfl; have hfz11_0 := blk_frozen BK110.out 0; have hfz11_1 := blk_frozen BK110.out 1; obtain ⟨Ao12, co12, eo12⟩ := Kd.R_slice HO108.out; subst eo12))
 (try simp only [Act.put, List.setIfInBounds_toArray, List.set_cons_zero, List.set_cons_succ])
 go_cut [20] (fun v20 wc => ∃ (kq : Nat) (x20_3 : Bool) (x105001_3 : Int), v20 = .bool x20_3 ∧ Aside0 (spec_DrawCostLift.j0 kq x20_3 t102 x105001_3 t105 t106 = some (r1, r2, r3)) ∧ Aside0 (kq ≤ k) ∧ Aside0 (Kd.R k33 33 wc w.heap.size (fun _ => True) (.slice Ao12 t106.length co12) t106) ∧ Aside0 (wc.heap[gb101]? = some (.cells #[.int .i64 0, (.slice none 0 0)] 25 (0, 0))) ∧ Aside0 (wc.heap[gb110]? = some (.cells #[.int .i64 t105, (.slice Ao12 t106.length co12)] 25 (0, 0))) ∧ Aside0 (IsS115 w wc g104 t102 x105001_3) ∧ Aside0 (Below w.heap.size w wc))
 case first =>
  have H := HC4.out; clear HC4; replace H := Option.bind_eq_some_iff.mp H; obtain ⟨t111, A130, H⟩ := H; replace H : (if t111 = true then ((spec_l30Rd_pick.f k t102 t109 3).bind fun bt112 => (spec_DrawCostLift.j0 k (decide (bt112.1 > 0)) t102 bt112.2 t105 t106)) else (spec_DrawCostLift.j0 k false t102 t109 t105 t106)) = some (r1, r2, r3) := H; have A13 := Aside0.mk A130; clear A130; by_cases c14 : t111 = true
  ·
   subst c14; have H1 : ((spec_l30Rd_pick.f k t102 t109 3).bind fun bt112 => (spec_DrawCostLift.j0 k (decide (bt112.1 > 0)) t102 bt112.2 t105 t106)) = some (r1, r2, r3) := by rw [if_pos rfl] at H; exact H
   clear H; have H := H1; clear H1; replace H := Option.bind_eq_some_iff.mp H; obtain ⟨⟨t112, t113⟩, A150, H⟩ := H; replace H : (spec_DrawCostLift.j0 k (decide (t112 > 0)) t102 t113 t105 t106) = some (r1, r2, r3) := H; have A15 := Aside0.mk A150; clear A150; have H' := Aside0.mk H; clear H; have hnb16 := NB110_101.out; have hnc16 := NB101_110.out; have hnb17 := NB110_104.out; have hnc17 := NB104_110.out; have hcz18_0 : w8.cell? ⟨gb110, 0, none⟩ = some (.int .i64 0) := (blk_cell BK110.out 0).trans rfl; have hcz18_1 : w8.cell? ⟨gb110, 1, none⟩ = some (.slice none 0 0) := (blk_cell BK110.out 1).trans rfl; have hfz18_0 := blk_frozen BK110.out 0; have hfz18_1 := blk_frozen BK110.out 1; go_wp2_with (first | ((with_reducible refine gate_callee (f := 101) rfl ?_); refine goesL_ (some 15) rfl rfl Try.func101 (by kernel_rfl) rfl #[.agg #[.int .i64 t105, .slice Ao12 t106.length co12]] rfl ul ?_; (with_reducible refine (spec_l1Ok.calls k t105 _ _ t106 true _ ?side1 ?side2 A13.out).mono ?_); (case side1 => refine (Kd.R_reads' (e := 33) (base := w.heap.size) (ok := fun k_ => True) (n := t106.length) (c := co12) ?_).2.2; exact (by (with_reducible repeat (first | apply Kd.R_alloc | apply Kd.R_drewN | apply Kd.R_drew)); exact (Kd.R_mono (Kd.R_far (p := ⟨gb110, 1, none⟩) (Kd.R_far (p := ⟨gb110, 0, none⟩) (Kd.R_types HO108.out BK110.out (by decide)) (fun _ hk => hk.2) (.int .i64 t105)) (fun _ hk => hk.2) (.slice Ao12 t106.length co12)) (fun _ h_ => h_.1)))); (case side2 => exact (Kd.R_reads' HO108.out).2.1); rintro e w19 ⟨rfl, hb⟩; refine ⟨_, rfl, ?_⟩; have n0_ := Aside0.mk (Kd.R_below (by (with_reducible repeat (first | apply Kd.R_alloc | apply Kd.R_drewN | apply Kd.R_drew)); exact (Kd.R_mono (Kd.R_far (p := ⟨gb110, 1, none⟩) (Kd.R_far (p := ⟨gb110, 0, none⟩) (Kd.R_types HO108.out BK110.out (by decide)) (fun _ hk => hk.2) (.int .i64 t105)) (fun _ hk => hk.2) (.slice Ao12 t106.length co12)) (fun _ h_ => h_.1))) hb); have n1_ := Aside0.mk (blk_below (g := gb101) (o := .cells #[.int .i64 0, .slice none 0 0] 25 (0, 0)) (by (with_reducible repeat first | apply zbn | apply zbd | apply zba); refine blk_far ?_ NB101_110.out _; (with_reducible repeat first | apply zbn | apply zbd | apply zba); refine blk_far ?_ NB101_110.out _; exact ub BK101) hb); have n2_ := Aside0.mk (IsS115.below (show IsS115 w ((w8.setCell ⟨gb110, 0, none⟩ (.int .i64 t105)).setCell ⟨gb110, 1, none⟩ (.slice Ao12 t106.length co12)) g104 t102 t109 from uI2 HI104 NB104_101.out NB104_110.out) hb); have n3_ := Aside0.mk (blk_below (g := gb110) (o := .cells #[.int .i64 t105, .slice Ao12 t106.length co12] 25 (0, 0)) (by (with_reducible repeat first | apply zbn | apply zbd | apply zba); refine blk_put (cs := #[.int .i64 t105, .slice none 0 0]) ?_ 1 _ rfl; (with_reducible repeat first | apply zbn | apply zbd | apply zba); refine blk_put (cs := #[.int .i64 0, .slice none 0 0]) ?_ 0 _ rfl; exact ub BK110) hb); have n4_ := Aside0.mk (below_step (uB3 HB (IsS115.ge HI104.out) GE101.out GE110.out) hb); clear HO108; clear BK101; clear HI104; clear BK110; clear HB; have HO108 := n0_; have BK101 := n1_; have HI104 := n2_; have BK110 := n3_; have HB := n4_; clear n0_ n1_ n2_ n3_ n4_; (try clear hb); (try clear hb2); (try clear hk); (try clear hi)) | (go_at_call 137; (with_reducible refine (spec_l30Rd_pick.calls k g104 t102 t109 3 t112 t113 w _ ?side1 ?side2 A15.out).mono ?_); (case side1 => exact uI2 HI104 NB104_101.out NB104_110.out); (case side2 => exact uB3 HB (IsS115.ge HI104.out) GE101.out GE110.out); rintro e w20 ⟨rfl, hi, hb, hk⟩; have n0_ := Aside0.mk (KeepBut.blk hk (g' := gb101) (o := .cells #[.int .i64 0, .slice none 0 0] 25 (0, 0)) (ub BK101) NB101_104.out (by simp)); have n1_ := Aside0.mk (Kd.R_mono (Kd.R_keep (IsS115.apart (show IsS115 w _ g104 t102 t109 from uI2 HI104 NB104_101.out NB104_110.out) (ur HO108) (by decide)) hk (fun _ h => h.2)) (fun _ h => h.1)); have n2_ := Aside0.mk (KeepBut.blk hk (g' := gb110) (o := .cells #[.int .i64 t105, .slice Ao12 t106.length co12] 25 (0, 0)) (ub BK110) NB110_104.out (by simp)); have n3_ := Aside0.mk (hb); have n4_ := Aside0.mk (hi); clear BK101; clear HO108; clear BK110; clear HB; clear HI104; have BK101 := n0_; have HO108 := n1_; have BK110 := n2_; have HB := n3_; have HI104 := n4_; clear n0_ n1_ n2_ n3_ n4_; (try clear hb); (try clear hb2); (try clear hk); (try clear hi))); go_meet
   case rel => exact ⟨_, (decide (t112 > 0)), (t113), ue, H', ⟨by first | omega | exact Nat.le_refl _⟩, ⟨ur HO108⟩, ⟨ub BK101⟩, ⟨ub BK110⟩, ⟨uI2 HI104 NB104_101.out NB104_110.out⟩, ⟨uB3 HB (IsS115.ge HI104.out) GE101.out GE110.out⟩⟩
  ·
   replace c14 := Bool.eq_false_iff.mpr c14; subst c14; have H1 : (spec_DrawCostLift.j0 k false t102 t109 t105 t106) = some (r1, r2, r3) := by rw [if_neg (show ¬ (false = true) by decide)] at H; exact H
   clear H; have H := H1; clear H1; have H' := Aside0.mk H; clear H; have hnb21 := NB110_101.out; have hnc21 := NB101_110.out; have hnb22 := NB110_104.out; have hnc22 := NB104_110.out; have hcz23_0 : w8.cell? ⟨gb110, 0, none⟩ = some (.int .i64 0) := (blk_cell BK110.out 0).trans rfl; have hcz23_1 : w8.cell? ⟨gb110, 1, none⟩ = some (.slice none 0 0) := (blk_cell BK110.out 1).trans rfl; have hfz23_0 := blk_frozen BK110.out 0; have hfz23_1 := blk_frozen BK110.out 1; go_wp2_with (first | ((with_reducible refine gate_callee (f := 101) rfl ?_); refine goesL_ (some 15) rfl rfl Try.func101 (by kernel_rfl) rfl #[.agg #[.int .i64 t105, .slice Ao12 t106.length co12]] rfl ul ?_; (with_reducible refine (spec_l1Ok.calls k t105 _ _ t106 false _ ?side1 ?side2 A13.out).mono ?_); (case side1 => refine (Kd.R_reads' (e := 33) (base := w.heap.size) (ok := fun k_ => True) (n := t106.length) (c := co12) ?_).2.2; exact (by (with_reducible repeat (first | apply Kd.R_alloc | apply Kd.R_drewN | apply Kd.R_drew)); exact (Kd.R_mono (Kd.R_far (p := ⟨gb110, 1, none⟩) (Kd.R_far (p := ⟨gb110, 0, none⟩) (Kd.R_types HO108.out BK110.out (by decide)) (fun _ hk => hk.2) (.int .i64 t105)) (fun _ hk => hk.2) (.slice Ao12 t106.length co12)) (fun _ h_ => h_.1)))); (case side2 => exact (Kd.R_reads' HO108.out).2.1); rintro e w24 ⟨rfl, hb⟩; refine ⟨_, rfl, ?_⟩; have n0_ := Aside0.mk (Kd.R_below (by (with_reducible repeat (first | apply Kd.R_alloc | apply Kd.R_drewN | apply Kd.R_drew)); exact (Kd.R_mono (Kd.R_far (p := ⟨gb110, 1, none⟩) (Kd.R_far (p := ⟨gb110, 0, none⟩) (Kd.R_types HO108.out BK110.out (by decide)) (fun _ hk => hk.2) (.int .i64 t105)) (fun _ hk => hk.2) (.slice Ao12 t106.length co12)) (fun _ h_ => h_.1))) hb); have n1_ := Aside0.mk (blk_below (g := gb101) (o := .cells #[.int .i64 0, .slice none 0 0] 25 (0, 0)) (by (with_reducible repeat first | apply zbn | apply zbd | apply zba); refine blk_far ?_ NB101_110.out _; (with_reducible repeat first | apply zbn | apply zbd | apply zba); refine blk_far ?_ NB101_110.out _; exact ub BK101) hb); have n2_ := Aside0.mk (IsS115.below (show IsS115 w ((w8.setCell ⟨gb110, 0, none⟩ (.int .i64 t105)).setCell ⟨gb110, 1, none⟩ (.slice Ao12 t106.length co12)) g104 t102 t109 from uI2 HI104 NB104_101.out NB104_110.out) hb); have n3_ := Aside0.mk (blk_below (g := gb110) (o := .cells #[.int .i64 t105, .slice Ao12 t106.length co12] 25 (0, 0)) (by (with_reducible repeat first | apply zbn | apply zbd | apply zba); refine blk_put (cs := #[.int .i64 t105, .slice none 0 0]) ?_ 1 _ rfl; (with_reducible repeat first | apply zbn | apply zbd | apply zba); refine blk_put (cs := #[.int .i64 0, .slice none 0 0]) ?_ 0 _ rfl; exact ub BK110) hb); have n4_ := Aside0.mk (below_step (uB3 HB (IsS115.ge HI104.out) GE101.out GE110.out) hb); clear HO108; clear BK101; clear HI104; clear BK110; clear HB; have HO108 := n0_; have BK101 := n1_; have HI104 := n2_; have BK110 := n3_; have HB := n4_; clear n0_ n1_ n2_ n3_ n4_; (try clear hb); (try clear hb2); (try clear hk); (try clear hi))); go_meet
   case rel => exact ⟨_, (false), (t109), ue, H', ⟨by first | omega | exact Nat.le_refl _⟩, ⟨ur HO108⟩, ⟨ub BK101⟩, ⟨ub BK110⟩, ⟨uI2 HI104 NB104_101.out NB104_110.out⟩, ⟨uB3 HB (IsS115.ge HI104.out) GE101.out GE110.out⟩⟩
 case rest =>
  clear HC4; try clear c1
  try clear c2
  try clear p2
  try clear c8
  try clear c9
  try clear c10
  try clear c14
  try clear c16
  try clear c17
  try clear c21
  try clear c22
  try clear hcz11_0
  try clear hcz11_1
  try clear hcz18_0
  try clear hcz18_1
  try clear hcz23_0
  try clear hcz23_1
  try clear hfz11_0
  try clear hfz11_1
  try clear hfz18_0
  try clear hfz18_1
  try clear hfz23_0
  try clear hfz23_1
  obtain ⟨kq, x20_3, x105001_3, rfl, HA, HJ3, HO_111001, BK101, BK110, HI104, HB⟩ := hcut
  cases kq with
  | zero => exact absurd HA.out (by simp [spec_DrawCostLift.j0])
  | succ kj3 =>
   have H := HA.out; clear HA; simp only [spec_DrawCostLift.j0] at H; by_cases c25 : x20_3 = true
   ·
    subst c25; have H1 : ((spec_l1Back.f kj3 t105 t106).bind fun bt114 => ((spec_l30Rd_pick.f kj3 t102 x105001_3 t105).bind fun bt118 => ((spec_l3All.f kj3 bt114.1 bt114.2 bt118.1).bind fun t120 => (spec_DrawCostLift.l0 kj3 t120 0 t105 t106)))) = some (r1, r2, r3) := by rw [if_pos rfl] at H; exact H
    clear H; have H := H1; clear H1; replace H := Option.bind_eq_some_iff.mp H; obtain ⟨⟨t114, t115⟩, A260, H⟩ := H; replace H : ((spec_l30Rd_pick.f kj3 t102 x105001_3 t105).bind fun bt118 => ((spec_l3All.f kj3 t114 t115 bt118.1).bind fun t120 => (spec_DrawCostLift.l0 kj3 t120 0 t105 t106))) = some (r1, r2, r3) := H; have A26 := Aside0.mk A260; clear A260; replace H := Option.bind_eq_some_iff.mp H; obtain ⟨⟨t118, t119⟩, A270, H⟩ := H; replace H : ((spec_l3All.f kj3 t114 t115 t118).bind fun t120 => (spec_DrawCostLift.l0 kj3 t120 0 t105 t106)) = some (r1, r2, r3) := H; have A27 := Aside0.mk A270; clear A270; replace H := Option.bind_eq_some_iff.mp H; obtain ⟨t120, A280, H⟩ := H; replace H : (spec_DrawCostLift.l0 kj3 t120 0 t105 t106) = some (r1, r2, r3) := H; have A28 := Aside0.mk A280; clear A280; have H' := Aside0.mk H; clear H; try go_wp2
    have n0_ := Aside0.mk (Kd.R_drew HO_111001.out); have n1_ := Aside0.mk (blk_drew BK101.out); have n2_ := Aside0.mk (blk_drew BK110.out); have n3_ := Aside0.mk (IsS115.drew HI104.out); have n4_ := Aside0.mk (below_drew1 HB.out); clear HO_111001; clear BK101; clear BK110; clear HI104; clear HB; have HO_111001 := n0_; have BK101 := n1_; have BK110 := n2_; have HI104 := n3_; have HB := n4_; clear n0_ n1_ n2_ n3_ n4_; refine start_ (n := 8) (S := fun w' => w'.cell? ⟨gb110, 0, none⟩ = some (.int .i64 t105) ∧ w'.cell? ⟨gb110, 1, none⟩ = some (.slice Ao12 t106.length co12)) (ds := []) #[false,false,false,false,false,false,false,false] (by kernel_rfl) rfl rfl ⟨(blk_cell BK110.out 0).trans rfl, (blk_cell BK110.out 1).trans rfl⟩ (fun hHeld => ?_); refine with_tabW spec_DrawCostLift.tab4 spec_DrawCostLift.bits4 (fun HT_ HW_ => ?_); generalize wc.drew = w29 at HO_111001 BK101 BK110 HI104 HB hHeld ⊢; refine pure_ (i := 2) (N := some 23) (v := ?_) (a' := ?_) #[false,false,true,false,false,false,false,false] rfl rfl (any_of HT_.out (by kernel_rfl)) (fun _ _ _ h => h) (Or.inl ⟨by rfl, ?_⟩) ?_ ?_; rotate_left; (intro w'; go_simp; with_reducible rfl); rotate_left; (simp only [Act.put, List.setIfInBounds_toArray, List.set_cons_zero, List.set_cons_succ, i64_w, i32_w]; rfl); refine pure_ (i := 3) (N := some 24) (v := ?_) (a' := ?_) #[false,false,true,true,false,false,false,false] rfl rfl (any_of HT_.out (by kernel_rfl)) (fun _ _ _ h => h) (Or.inl ⟨by rfl, ?_⟩) ?_ ?_; rotate_left; (intro w'; go_simp; with_reducible rfl); rotate_left; (simp only [Act.put, List.setIfInBounds_toArray, List.set_cons_zero, List.set_cons_succ, i64_w, i32_w]; rfl); refine take_ (i := 0) (N := some 21) (v := ?_) (a' := ?_) #[true,false,true,true,false,false,false,false] rfl rfl (take_ofW HT_.out HW_.out (by kernel_rfl)) (fun _ _ _ h => h) (Or.inl ⟨by rfl, ?_⟩) hHeld ?_ ?_; rotate_left; (rintro w' ⟨s0, s1⟩; go_simp; with_reducible rfl); rotate_left; (simp only [Act.put, List.setIfInBounds_toArray, List.set_cons_zero, List.set_cons_succ, i64_w, i32_w]; rfl); refine take_ (i := 4) (N := some 25) (v := ?_) (a' := ?_) #[true,false,true,true,true,false,false,false] rfl rfl (take_ofW HT_.out HW_.out (by kernel_rfl)) (fun _ _ _ h => h) (Or.inl ⟨by rfl, ?_⟩) hHeld ?_ ?_; rotate_left; (rintro w' ⟨s0, s1⟩; go_simp; with_reducible rfl); rotate_left; (simp only [Act.put, List.setIfInBounds_toArray, List.set_cons_zero, List.set_cons_succ, i64_w, i32_w]; rfl); refine one_ (i := 1) (N := some 22) #[true,true,true,true,true,false,false,false] rfl rfl (one_of HT_.out (by kernel_rfl)) (by decide) (fun K hK => ?_); refine goes_ Try.func138 (by kernel_rfl) rfl #[.agg #[.int .i64 t105, .slice Ao12 t106.length co12]] (by rfl) rfl rfl ul ?_; with_reducible refine (spec_l1Back.calls kj3 t105 _ _ t106 t114 t115 _ ?side1 ?side2 A26.out).mono ?_
    (case side1 => exact uD (Kd.R_reads' HO_111001.out).2.2); (case side2 => exact (Kd.R_reads' HO_111001.out).2.1); rintro e w30 ⟨v116, rfl, ho0, hb⟩; refine ⟨_, rfl, ?_⟩; have n0_ := Aside0.mk (Kd.R_elder' (ur HO_111001) (Kd.R_base ho0) hb); have n1_ := Aside0.mk (Kd.R_lower (Kd.R_new' ho0 (Kd.R_lt (ur HO_111001))) (below_size (uB3 HB (IsS115.ge HI104.out) GE101.out GE110.out))); have n2_ := Aside0.mk (blk_below (g := gb101) (o := .cells #[.int .i64 0, .slice none 0 0] 25 (0, 0)) (ub BK101) hb); have n3_ := Aside0.mk (blk_below (g := gb110) (o := .cells #[.int .i64 t105, .slice Ao12 t106.length co12] 25 (0, 0)) (ub BK110) hb); have n4_ := Aside0.mk (IsS115.below (uI2 HI104 NB104_101.out NB104_110.out) hb); have n5_ := Aside0.mk (below_step (uB3 HB (IsS115.ge HI104.out) GE101.out GE110.out) hb); clear HO_111001; clear BK101; clear BK110; clear HI104; clear HB; have HO_111001 := n0_; have HO117 := n1_; have BK101 := n2_; have BK110 := n3_; have HI104 := n4_; have HB := n5_; clear n0_ n1_ n2_ n3_ n4_ n5_; (try clear hb); (try clear hb2); (try clear hk); (try clear hi); (try clear ho0); refine hK.out _ _ ⟨(blk_cell BK110.out 0).trans rfl, (blk_cell BK110.out 1).trans rfl⟩ (fun hHeld => ?_); clear hK K; refine norm_ (a' := ?_) ?_ ?_; rotate_left
    ·
     show Act.put _ (some 22) _ = _
     simp only [Act.put, List.setIfInBounds_toArray, List.set_cons_zero, List.set_cons_succ, i64_w, i32_w]; rfl
    refine one_ (i := 5) (N := some 26) #[true,true,true,true,true,true,false,false] rfl rfl (one_of HT_.out (by kernel_rfl)) (by decide) (fun K hK => ?_); refine goes_ Try.func137 (by kernel_rfl) rfl #[.pointer (some ⟨g104, 0, none⟩), .int .i64 t105] (by rfl) rfl rfl ul ?_; with_reducible refine (spec_l30Rd_pick.calls kj3 g104 t102 x105001_3 t105 t118 t119 w _ ?side1 ?side2 A27.out).mono ?_
    (case side1 => exact uI2 HI104 NB104_101.out NB104_110.out); (case side2 => exact uB3 HB (IsS115.ge HI104.out) GE101.out GE110.out); rintro e w31 ⟨rfl, hi, hb, hk⟩; refine ⟨_, rfl, ?_⟩; have n0_ := Aside0.mk (Kd.R_mono (Kd.R_keep (IsS115.apart (show IsS115 w _ g104 t102 x105001_3 from uI2 HI104 NB104_101.out NB104_110.out) (ur HO_111001) (by decide)) hk (fun _ h => h.2)) (fun _ h => h.1)); have n1_ := Aside0.mk (KeepBut.blk hk (g' := gb101) (o := .cells #[.int .i64 0, .slice none 0 0] 25 (0, 0)) (ub BK101) NB101_104.out (by simp)); have n2_ := Aside0.mk (KeepBut.blk hk (g' := gb110) (o := .cells #[.int .i64 t105, .slice Ao12 t106.length co12] 25 (0, 0)) (ub BK110) NB110_104.out (by simp)); have n3_ := Aside0.mk (Kd.R_mono (Kd.R_keep (IsS115.apart (show IsS115 w _ g104 t102 x105001_3 from uI2 HI104 NB104_101.out NB104_110.out) (ur HO117) (by decide)) hk (fun _ h => h.2)) (fun _ h => h.1)); have n4_ := Aside0.mk (hb); have n5_ := Aside0.mk (hi); clear HO_111001; clear BK101; clear BK110; clear HO117; clear HB; clear HI104; have HO_111001 := n0_; have BK101 := n1_; have BK110 := n2_; have HO117 := n3_; have HB := n4_; have HI104 := n5_; clear n0_ n1_ n2_ n3_ n4_ n5_; (try clear hb); (try clear hb2); (try clear hk); (try clear hi); obtain ⟨Ao32, co32, eo32⟩ := Kd.R_slice HO117.out; (first | subst eo32 | (injection eo32 with f1_ f2_ f3_; have f4_ := f1_.symm; have f5_ := f3_.symm; clear f1_ f2_ f3_; subst f4_; subst f5_)); refine hK.out _ _ ⟨(blk_cell BK110.out 0).trans rfl, (blk_cell BK110.out 1).trans rfl⟩ (fun hHeld => ?_); clear hK K; refine norm_ (a' := ?_) ?_ ?_; rotate_left
    ·
     show Act.put _ (some 26) _ = _
     simp only [Act.put, List.setIfInBounds_toArray, List.set_cons_zero, List.set_cons_succ, i64_w, i32_w]; rfl
    refine one_ (i := 6) (N := some 27) #[true,true,true,true,true,true,true,false] rfl rfl (one_of HT_.out (by kernel_rfl)) (by decide) (fun K hK => ?_); refine goes_ Try.func126 (by kernel_rfl) rfl #[.agg #[.int .i64 t114, .slice Ao32 t115.length co32], .int .i64 t118] (by rfl) rfl rfl ul ?_; with_reducible refine (spec_l3All.calls kj3 t114 _ _ t115 t118 t120 _ ?side1 ?side2 A28.out).mono ?_
    (case side1 => exact uD (Kd.R_reads' HO117.out).2.2); (case side2 => exact (Kd.R_reads' HO117.out).2.1); rintro e w33 ⟨v121, rfl, ho0, hb⟩; refine ⟨_, rfl, ?_⟩; have n0_ := Aside0.mk (Kd.R_below (ur HO_111001) hb); have n1_ := Aside0.mk (Kd.R_below (ur HO117) hb); have n2_ := Aside0.mk (Kd.R_lower ho0 (below_size (uB3 HB (IsS115.ge HI104.out) GE101.out GE110.out))); have n3_ := Aside0.mk (blk_below (g := gb101) (o := .cells #[.int .i64 0, .slice none 0 0] 25 (0, 0)) (ub BK101) hb); have n4_ := Aside0.mk (blk_below (g := gb110) (o := .cells #[.int .i64 t105, .slice Ao12 t106.length co12] 25 (0, 0)) (ub BK110) hb); have n5_ := Aside0.mk (IsS115.below (uI2 HI104 NB104_101.out NB104_110.out) hb); have n6_ := Aside0.mk (below_step (uB3 HB (IsS115.ge HI104.out) GE101.out GE110.out) hb); clear HO_111001; clear HO117; clear BK101; clear BK110; clear HI104; clear HB; have HO_111001 := n0_; have HO117 := n1_; have HO122 := n2_; have BK101 := n3_; have BK110 := n4_; have HI104 := n5_; have HB := n6_; clear n0_ n1_ n2_ n3_ n4_ n5_ n6_; (try clear hb); (try clear hb2); (try clear hk); (try clear hi); (try clear ho0); refine hK.out _ _ ⟨(blk_cell BK110.out 0).trans rfl, (blk_cell BK110.out 1).trans rfl⟩ (fun hHeld => ?_); clear hK K; refine norm_ (a' := ?_) ?_ ?_; rotate_left
    ·
     show Act.put _ (some 27) _ = _
     simp only [Act.put, List.setIfInBounds_toArray, List.set_cons_zero, List.set_cons_succ, i64_w, i32_w]; rfl
    refine pure_ (i := 7) (N := some 6) (v := ?_) (a' := ?_) #[true,true,true,true,true,true,true,true] rfl rfl (any_of HT_.out (by kernel_rfl)) (fun _ _ _ h => h) (Or.inl ⟨by rfl, ?_⟩) ?_ ?_; rotate_left; (intro w'; go_simp; with_reducible rfl); rotate_left; (simp only [Act.put, List.setIfInBounds_toArray, List.set_cons_zero, List.set_cons_succ, i64_w, i32_w]; rfl); refine done_ (done_of HT_.out (by kernel_rfl)) ?_; try go_wp2
    go_loopg [7] kj3 (fun kq v7 w' => ∃ (x6_2 : List Int) (x7_2 : Int), v7 = .int .i64 x7_2 ∧ Aside0 (spec_DrawCostLift.l0 kq x6_2 x7_2 t105 t106 = some (r1, r2, r3)) ∧ Aside0 (kq ≤ kj3) ∧ Aside0 (Kd.R (Kd.int .i64) 3 w' w.heap.size (fun _ => True) v121 x6_2) ∧ Aside0 (Kd.R k33 33 w' w.heap.size (fun _ => True) (.slice Ao12 t106.length co12) t106) ∧ Aside0 (w'.heap[gb101]? = some (.cells #[.int .i64 0, (.slice none 0 0)] 25 (0, 0))) ∧ Aside0 (w'.heap[gb110]? = some (.cells #[.int .i64 t105, (.slice Ao12 t106.length co12)] 25 (0, 0))) ∧ Aside0 (Below w.heap.size w w'))
    case atStart => exact ⟨(t120), (0), ue, H', ⟨Nat.le_refl _⟩, ⟨ur HO122⟩, ⟨by (with_reducible repeat (first | apply Kd.R_alloc | apply Kd.R_drewN | apply Kd.R_drew)); exact Kd.R_mono HO_111001.out (fun _ hk => trivial)⟩, ⟨ub BK101⟩, ⟨ub BK110⟩, ⟨uB3 HB (IsS115.ge HI104.out) GE101.out GE110.out⟩⟩
    case round =>
     clear H'; try clear c1
     try clear c2
     try clear p2
     try clear c8
     try clear c9
     try clear c10
     try clear c12
     try clear c13
     try clear c14
     try clear c16
     try clear c17
     try clear c21
     try clear c22
     try clear c25
     try clear hcz11_0
     try clear hcz11_1
     try clear hcz18_0
     try clear hcz18_1
     try clear hcz23_0
     try clear hcz23_1
     try clear hfz11_0
     try clear hfz11_1
     try clear hfz18_0
     try clear hfz18_1
     try clear hfz23_0
     try clear hfz23_1
     try clear p2
     obtain ⟨x6_2, x7_2, rfl, HA, HK2, HO_6, HO_111001, BK101, BK110, HB⟩ := hrel
     cases gk with
     | zero => exact absurd HA.out (by simp [spec_DrawCostLift.l0])
     | succ k2 =>
      have H := HA.out; clear HA; simp only [spec_DrawCostLift.l0] at H; by_cases c34 : x7_2 < (x6_2.length : Int)
      ·
       rw [if_pos c34] at H; have c34b0 : decide (x7_2 < (x6_2.length : Int)) = true := decide_eq_true c34; clear c34; by_cases c35 : 0 ≤ x7_2
       ·
        rw [if_pos c35] at H; have c35b0 : decide (0 ≤ x7_2) = true := decide_eq_true c35; clear c35; by_cases c36 : (rd x6_2 x7_2) > 99
        ·
         rw [if_pos c36] at H; have c36b0 : decide (99 < (rd x6_2 x7_2)) = true := decide_eq_true c36; clear c36; obtain ⟨y124, hy124⟩ : ∃ y_ : List Int, y_ = (x6_2.set (x7_2 : Int).toNat 99) := ⟨_, rfl⟩
         replace H : (spec_DrawCostLift.l0 k2 y124 (wrap64 (x7_2 + 1)) t105 t106) = some (r1, r2, r3) := by first | (rw [hy124]; with_reducible exact H) | (have H2_ := (Option.bind_some _ _).symm.trans H; rw [hy124]; with_reducible exact H2_) | (have H2_ := (Option.bind_some _ _).symm.trans H; with_reducible exact H2_) | with_reducible exact H | (rw [hy124]; exact H) | exact H
         have Ny124 := Aside0.mk hy124; clear hy124; have H' := Aside0.mk H; clear H; obtain ⟨Ao38, co38, eo38⟩ := Kd.R_slice HO_6.out; subst eo38; have p123 : 0 ≤ (x7_2 : Int) := ua; have q123 : x7_2 < (x6_2.length : Int) := ua; obtain ⟨ad123, e123, hx123_0⟩ := Kd.at_int (Kd.R_reads' HO_6.out).2.2 x7_2 p123 q123
         cases e123
         replace p123 := eq_true p123; replace q123 := eq_true q123; have p37 : 0 ≤ (x7_2 : Int) := ua; have q37 : (x7_2 : Int) < ((x6_2.length : Int) : Int) := ua; obtain ⟨go37, co37, eo37, gb37, gl37, cl37, HG37⟩ := Kd.R_form HO_6.out (by omega); (first | cases eo37 | (injection eo37 with ea_ en_ ec_; (first | subst ea_ | (injection ea_ with ea_; subst ea_)); subst ec_; clear en_)); have GB37 := Aside0.mk gb37; have GG37 := Aside0.mk HG37; clear gb37 gl37 HG37; (first | simp only [add_plain] at hx123_0 | skip); obtain ⟨hx37_0, hf37_0⟩ := Kd.R_celln 0 HO_6.out (x7_2 : Int) p37 q37; replace p37 := eq_true p37; replace q37 := eq_true q37; have HP39 := Kd.R_putg HO_6.out (x7_2 : Int) 99; go_wp2_with (first | ((with_reducible refine gate_store (t := 3) (p := 41) rfl ?_); refine store_event (t := 3) (p := 41) (v := ?vo_w40) (w1 := (wr.setCell ⟨go37, (x7_2 : Int).toNat, none⟩ (.int .i64 99))) ?hg ?ho ?hn ?hr ?_; (case ho => rfl); (case hg => rfl); (case hn => rfl); (case hr => first | (go_simp; done) | (go_simp; rfl)); intro w40 hw; have hg : wr.grownBy w40 (some go37) := (by rw [hw]; exact HP39.2); have hp_ : Kd.R (Kd.int .i64) 3 w40 w.heap.size (fun _ => True) (.slice (some ⟨go37, 0, none⟩) x6_2.length co38) y124 := (by rw [hw, Ny124.out]; exact HP39.1); clear HP39; have n0_ := Aside0.mk (hp_); have n1_ := Aside0.mk (Kd.R_over' (v := (.slice (some ⟨go37, 0, none⟩) x6_2.length co38)) (ur HO_111001) (Kd.R_typed HO_6.out) (by decide) hg); have n2_ := Aside0.mk (blk_grown (g := gb101) (o := .cells #[.int .i64 0, .slice none 0 0] 25 (0, 0)) (ub BK101) hg (Kd.R_ne HO_6.out BK101.out (by decide))); have n3_ := Aside0.mk (blk_grown (g := gb110) (o := .cells #[.int .i64 t105, .slice Ao12 t106.length co12] 25 (0, 0)) (ub BK110) hg (Kd.R_ne HO_6.out BK110.out (by decide))); have n4_ := Aside0.mk ((by rw [hw]; exact below_set (HB.out) GB37.out : Below w.heap.size w w40)); clear HO_6; clear HO_111001; clear BK101; clear BK110; clear HB; have HO_6 := n0_; have HO_111001 := n1_; have BK101 := n2_; have BK110 := n3_; have HB := n4_; clear n0_ n1_ n2_ n3_ n4_; clear hg hw hp_)); go_roundg k2
         case measure => have := HJ3.out; have := HK2.out; omega
         case rel => exact ⟨(y124), (wrap64 (x7_2 + 1)), ue, H', ⟨by have := HJ3.out; have := HK2.out; omega⟩, ⟨ur HO_6⟩, ⟨ur HO_111001⟩, ⟨ub BK101⟩, ⟨ub BK110⟩, ⟨uB2 HB GE101.out GE110.out⟩⟩
        ·
         rw [if_neg c36] at H; have c36b0 : decide (99 < (rd x6_2 x7_2)) = false := decide_eq_false c36; clear c36; have H' := Aside0.mk H; clear H; obtain ⟨Ao41, co41, eo41⟩ := Kd.R_slice HO_6.out; subst eo41; have p123 : 0 ≤ (x7_2 : Int) := ua; have q123 : x7_2 < (x6_2.length : Int) := ua; obtain ⟨ad123, e123, hx123_0⟩ := Kd.at_int (Kd.R_reads' HO_6.out).2.2 x7_2 p123 q123
         cases e123
         replace p123 := eq_true p123; replace q123 := eq_true q123; go_wp2; go_roundg k2
         case measure => have := HJ3.out; have := HK2.out; omega
         case rel => exact ⟨(x6_2), (wrap64 (x7_2 + 1)), ue, H', ⟨by have := HJ3.out; have := HK2.out; omega⟩, ⟨ur HO_6⟩, ⟨ur HO_111001⟩, ⟨ub BK101⟩, ⟨ub BK110⟩, ⟨uB2 HB GE101.out GE110.out⟩⟩
       ·
        rw [if_neg c35] at H; exact absurd H (by simp)
      ·
       rw [if_neg c34] at H; have c34b0 : decide (x7_2 < (x6_2.length : Int)) = false := decide_eq_false c34; clear c34; simp only [Option.some.injEq, Prod.mk.injEq] at H; obtain ⟨rfl, rfl, rfl⟩ := H; obtain ⟨Ao42, co42, eo42⟩ := Kd.R_slice HO_6.out; subst eo42; have hnb43 := NB110_101.out; have hnc43 := NB101_110.out; have hcz44_0 : wr.cell? ⟨gb110, 0, none⟩ = some (.int .i64 t105) := (blk_cell BK110.out 0).trans rfl; have hcz44_1 : wr.cell? ⟨gb110, 1, none⟩ = some (.slice Ao12 t106.length co12) := (blk_cell BK110.out 1).trans rfl; have hfz44_0 := blk_frozen BK110.out 0; have hfz44_1 := blk_frozen BK110.out 1; have hcz45_0 : wr.cell? ⟨gb101, 0, none⟩ = some (.int .i64 0) := (blk_cell BK101.out 0).trans rfl; have hcz45_1 : wr.cell? ⟨gb101, 1, none⟩ = some (.slice none 0 0) := (blk_cell BK101.out 1).trans rfl; have hfz45_0 := blk_frozen BK101.out 0; have hfz45_1 := blk_frozen BK101.out 1; go_wp2; refine bodyPost_ret (results_ct rfl _ _ gb101 25 #[.int .i64 t105, .slice Ao12 t106.length co12] (0, 0) _ rfl (by (with_reducible repeat first | apply zbn | apply zbd | apply zba); refine blk_put (cs := #[.int .i64 t105, .slice none 0 0]) ?_ 1 _ rfl; (with_reducible repeat first | apply zbn | apply zbd | apply zba); refine blk_put (cs := #[.int .i64 0, .slice none 0 0]) ?_ 0 _ rfl; exact ub BK101) Try.underlying25 rfl (by kernel_rfl)) rfl ?_; exact ⟨_, _, by first | rfl | (simp [errW_none, errW_some] <;> rfl) | (simp [*, errW_none, errW_some] <;> rfl), by (with_reducible repeat (first | apply Kd.R_alloc | apply Kd.R_drewN | apply Kd.R_drew)); exact Kd.R_mono (Kd.R_far (p := ⟨gb101, 1, none⟩) (Kd.R_far (p := ⟨gb101, 0, none⟩) (Kd.R_types HO_111001.out BK101.out (by decide)) (fun _ hk => hk.2) (.int .i64 t105)) (fun _ hk => hk.2) (.slice Ao12 t106.length co12)) (fun _ hk => trivial), by (with_reducible repeat (first | apply Kd.R_alloc | apply Kd.R_drewN | apply Kd.R_drew)); exact Kd.R_mono (Kd.R_far (p := ⟨gb101, 1, none⟩) (Kd.R_far (p := ⟨gb101, 0, none⟩) (Kd.R_types HO_6.out BK101.out (by decide)) (fun _ hk => hk.2) (.int .i64 t105)) (fun _ hk => hk.2) (.slice Ao12 t106.length co12)) (fun _ hk => trivial), uB2 HB GE101.out GE110.out⟩
   ·
    replace c25 := Bool.eq_false_iff.mpr c25; subst c25; have H1 : (spec_DrawCostLift.l1 kj3 (([] : List Int)) 0 t102 x105001_3 t105 t106) = some (r1, r2, r3) := by rw [if_neg (show ¬ (false = true) by decide)] at H; exact H
    clear H; have H := H1; clear H1; obtain ⟨y125, hy125⟩ : ∃ y_ : List Int, y_ = (([] : List Int)) := ⟨_, rfl⟩
    replace H : (spec_DrawCostLift.l1 kj3 y125 0 t102 x105001_3 t105 t106) = some (r1, r2, r3) := by first | (rw [hy125]; with_reducible exact H) | (have H2_ := (Option.bind_some _ _).symm.trans H; rw [hy125]; with_reducible exact H2_) | (have H2_ := (Option.bind_some _ _).symm.trans H; with_reducible exact H2_) | with_reducible exact H | (rw [hy125]; exact H) | exact H
    have Ny125 := Aside0.mk hy125; clear hy125; have H' := Aside0.mk H; clear H; go_wp2_with (first | ((with_reducible refine gate_dst (N := 44) rfl ?_); refine Kd.R_lit (Kd.int .i64) _ 3 ?hg (N := 44) ?hd (xs := ([] : List Int)) (inner := []) (ok := fun _ => True) (okp := fun _ => True) ?hr ?hp (fun _ hk => hk) trivial (Below.refl _ _) (Nat.le_refl _) (by simp) ?_; (case hd => rfl); (case hg => rfl); (case hr => first | (go_simp; done) | (go_simp; rfl)); (case hp => exact (Reps.none _ _)); intro v126 w46 ho47 hb hg_ hnew_; clear hg_ hnew_; (first | rw [← Ny125.out] at ho47 | (simp only [Int.reduceToNat] at ho47; rw [← Ny125.out] at ho47)); have n0_ := Aside0.mk (Kd.R_below (ur HO_111001) hb); have n1_ := Aside0.mk (Kd.R_lower ho47 (below_size (uB3 HB (IsS115.ge HI104.out) GE101.out GE110.out))); have n2_ := Aside0.mk (blk_below (g := gb101) (o := .cells #[.int .i64 0, .slice none 0 0] 25 (0, 0)) (ub BK101) hb); have n3_ := Aside0.mk (blk_below (g := gb110) (o := .cells #[.int .i64 t105, .slice Ao12 t106.length co12] 25 (0, 0)) (ub BK110) hb); have n4_ := Aside0.mk (IsS115.below (uI2 HI104 NB104_101.out NB104_110.out) hb); have n5_ := Aside0.mk (below_step (uB3 HB (IsS115.ge HI104.out) GE101.out GE110.out) hb); clear HO_111001; clear BK101; clear BK110; clear HI104; clear HB; have HO_111001 := n0_; have HO127 := n1_; have BK101 := n2_; have BK110 := n3_; have HI104 := n4_; have HB := n5_; clear n0_ n1_ n2_ n3_ n4_ n5_; clear hb ho47)); go_loopg [8, 9] kj3 (fun kq v8 v9 w' => ∃ (x8_2 : List Int) (x9_2 : Int) (x105001_2 : Int), v9 = .int .i64 x9_2 ∧ Aside0 (spec_DrawCostLift.l1 kq x8_2 x9_2 t102 x105001_2 t105 t106 = some (r1, r2, r3)) ∧ Aside0 (kq ≤ kj3) ∧ Aside0 (Kd.R (Kd.int .i64) 3 w' w.heap.size (fun _ => True) v8 x8_2) ∧ Aside0 (Kd.R k33 33 w' w.heap.size (fun _ => True) (.slice Ao12 t106.length co12) t106) ∧ Aside0 (w'.heap[gb101]? = some (.cells #[.int .i64 0, (.slice none 0 0)] 25 (0, 0))) ∧ Aside0 (w'.heap[gb110]? = some (.cells #[.int .i64 t105, (.slice Ao12 t106.length co12)] 25 (0, 0))) ∧ Aside0 (IsS115 w w' g104 t102 x105001_2) ∧ Aside0 (Below w.heap.size w w'))
    case atStart => exact ⟨(y125), (0), (x105001_3), ue, H', ⟨Nat.le_refl _⟩, ⟨ur HO127⟩, ⟨ur HO_111001⟩, ⟨ub BK101⟩, ⟨ub BK110⟩, ⟨uI2 HI104 NB104_101.out NB104_110.out⟩, ⟨uB3 HB (IsS115.ge HI104.out) GE101.out GE110.out⟩⟩
    case round =>
     clear H'; try clear c1
     try clear p1
     try clear q1
     try clear hx1
     try clear c2
     try clear p2
     try clear c3
     try clear p3
     try clear q3
     try clear hx3
     try clear hf3
     try clear c4
     try clear p6
     try clear c8
     try clear c9
     try clear c10
     try clear c12
     try clear p12
     try clear q12
     try clear hx12
     try clear c13
     try clear c14
     try clear c16
     try clear c17
     try clear c21
     try clear c22
     try clear c25
     try clear c34
     try clear c34b0
     try clear c35
     try clear c35b0
     try clear c36
     try clear c36b0
     try clear p37
     try clear q37
     try clear hx37
     try clear hf37
     try clear c43
     try clear hcz11_0
     try clear hcz11_1
     try clear hcz18_0
     try clear hcz18_1
     try clear hcz23_0
     try clear hcz23_1
     try clear hcz44_0
     try clear hcz44_1
     try clear hcz45_0
     try clear hcz45_1
     try clear hfz11_0
     try clear hfz11_1
     try clear hfz18_0
     try clear hfz18_1
     try clear hfz23_0
     try clear hfz23_1
     try clear hfz44_0
     try clear hfz44_1
     try clear hfz45_0
     try clear hfz45_1
     try clear hx123_0
     try clear hx37_0
     try clear p123
     try clear p2
     try clear p37
     try clear q123
     try clear q37
     obtain ⟨x8_2, x9_2, x105001_2, rfl, HA, HK2, HO_8, HO_111001, BK101, BK110, HI104, HB⟩ := hrel
     cases gk with
     | zero => exact absurd HA.out (by simp [spec_DrawCostLift.l1])
     | succ k2 =>
      have H := HA.out; clear HA; simp only [spec_DrawCostLift.l1] at H; by_cases c48 : x9_2 < t105
      ·
       rw [if_pos c48] at H; have c48b0 : decide (x9_2 < t105) = true := decide_eq_true c48; clear c48; replace H := Option.bind_eq_some_iff.mp H; obtain ⟨⟨t128, t129⟩, A490, H⟩ := H; replace H : (if x8_2.length < 17592186044416 then (spec_DrawCostLift.l1 k2 (x8_2 ++ [t128]) (wrap64 (x9_2 + 1)) t102 t129 t105 t106) else (none)) = some (r1, r2, r3) := H; have A49 := Aside0.mk A490; clear A490; by_cases c50 : x8_2.length < 17592186044416
       ·
        rw [if_pos c50] at H; have LMc50 := Aside0.mk c50; clear c50; obtain ⟨y130, hy130⟩ : ∃ y_ : List Int, y_ = (x8_2 ++ [t128]) := ⟨_, rfl⟩
        replace H : (spec_DrawCostLift.l1 k2 y130 (wrap64 (x9_2 + 1)) t102 t129 t105 t106) = some (r1, r2, r3) := by first | (rw [hy130]; with_reducible exact H) | (have H2_ := (Option.bind_some _ _).symm.trans H; rw [hy130]; with_reducible exact H2_) | (have H2_ := (Option.bind_some _ _).symm.trans H; with_reducible exact H2_) | with_reducible exact H | (rw [hy130]; exact H) | exact H
        have Ny130 := Aside0.mk hy130; clear hy130; have H' := Aside0.mk H; clear H; have hnb51 := NB110_101.out; have hnc51 := NB101_110.out; have hnb52 := NB110_104.out; have hnc52 := NB104_110.out; have hcz53_0 : wr.cell? ⟨gb110, 0, none⟩ = some (.int .i64 t105) := (blk_cell BK110.out 0).trans rfl; have hcz53_1 : wr.cell? ⟨gb110, 1, none⟩ = some (.slice Ao12 t106.length co12) := (blk_cell BK110.out 1).trans rfl; have hfz53_0 := blk_frozen BK110.out 0; have hfz53_1 := blk_frozen BK110.out 1; go_wp2_with (first | ((with_reducible refine gate_callee (f := 137) rfl ?_); refine goesL_ (some 53) rfl rfl Try.func137 (by kernel_rfl) rfl #[.pointer (some ⟨g104, 0, none⟩), .int .i64 6] rfl ul ?_; (with_reducible refine (spec_l30Rd_pick.calls k2 g104 t102 x105001_2 6 t128 t129 w _ ?side1 ?side2 A49.out).mono ?_); (case side1 => exact uI2 HI104 NB104_101.out NB104_110.out); (case side2 => exact uB3 HB (IsS115.ge HI104.out) GE101.out GE110.out); rintro e w54 ⟨rfl, hi, hb, hk⟩; refine ⟨_, rfl, ?_⟩; have n0_ := Aside0.mk (Kd.R_mono (Kd.R_keep (IsS115.apart (show IsS115 w _ g104 t102 x105001_2 from uI2 HI104 NB104_101.out NB104_110.out) (ur HO_8) (by decide)) hk (fun _ h => h.2)) (fun _ h => h.1)); have n1_ := Aside0.mk (Kd.R_mono (Kd.R_keep (IsS115.apart (show IsS115 w _ g104 t102 x105001_2 from uI2 HI104 NB104_101.out NB104_110.out) (ur HO_111001) (by decide)) hk (fun _ h => h.2)) (fun _ h => h.1)); have n2_ := Aside0.mk (KeepBut.blk hk (g' := gb101) (o := .cells #[.int .i64 0, .slice none 0 0] 25 (0, 0)) (ub BK101) NB101_104.out (by simp)); have n3_ := Aside0.mk (KeepBut.blk hk (g' := gb110) (o := .cells #[.int .i64 t105, .slice Ao12 t106.length co12] 25 (0, 0)) (ub BK110) NB110_104.out (by simp)); have n4_ := Aside0.mk (hb); have n5_ := Aside0.mk (hi); clear HO_8; clear HO_111001; clear BK101; clear BK110; clear HB; clear HI104; have HO_8 := n0_; have HO_111001 := n1_; have BK101 := n2_; have BK110 := n3_; have HB := n4_; have HI104 := n5_; clear n0_ n1_ n2_ n3_ n4_ n5_; (try clear hb); (try clear hb2); (try clear hk); (try clear hi)) | ((with_reducible refine gate_builtin (b := .append) (xs := #[.tmp 51, .tmp 54]) rfl ?_); at_builtin; refine Kd.R_append (Kd.int .i64) (w0 := w) w.heap.size rfl (.tmp 51) (.tmp 54) 28 3 (.int .i64 0) 8 rfl Try.underlying28 info3 rfl (by decide) (by omega) u8 x8_2 t128 [.int .i64 t128] (fun _ => True) (fun _ => False) rfl rfl ?aP (fun _ hk => hk.elim) ?aF ?aO ?aB ?aS ?aL ?_; (case aP => exact rfl); (case aB => exact (uB3 HB (IsS115.ge HI104.out) GE101.out GE110.out)); (case aF => exact (fun _ _ => trivial)); (case aO => exact (ur HO_8)); (case aS => exact (below_size (uB3 HB (IsS115.ge HI104.out) GE101.out GE110.out))); (case aL => have := LMc50.out; omega); intro v131 w55 ho hb hg hat; rw [← Ny130.out] at ho; have n0_ := Aside0.mk (Kd.R_over' (ur HO_111001) (Kd.R_typed (ur HO_8)) (by decide) hg); have n1_ := Aside0.mk (blk_grown (g := gb101) (o := .cells #[.int .i64 0, .slice none 0 0] 25 (0, 0)) (ub BK101) hg (Kd.R_ne HO_8.out BK101.out (by decide))); have n2_ := Aside0.mk (blk_grown (g := gb110) (o := .cells #[.int .i64 t105, .slice Ao12 t106.length co12] 25 (0, 0)) (ub BK110) hg (Kd.R_ne HO_8.out BK110.out (by decide))); have n3_ := Aside0.mk (IsS115.grown (uI2 HI104 NB104_101.out NB104_110.out) hg (IsS115.own_ne HI104.out HO_8.out (by decide))); have n4_ := Aside0.mk (hb); have n5_ := Aside0.mk (ho); clear HO_111001; clear BK101; clear BK110; clear HI104; clear HB; clear HO_8; have HO_111001 := n0_; have BK101 := n1_; have BK110 := n2_; have HI104 := n3_; have HB := n4_; have HO132 := n5_; clear n0_ n1_ n2_ n3_ n4_ n5_; clear ho hb hg hat)); go_roundg k2
        case measure => have := HJ3.out; have := HK2.out; omega
        case rel => exact ⟨(y130), (wrap64 (x9_2 + 1)), (t129), ue, H', ⟨by have := HJ3.out; have := HK2.out; omega⟩, ⟨ur HO132⟩, ⟨ur HO_111001⟩, ⟨ub BK101⟩, ⟨ub BK110⟩, ⟨uI2 HI104 NB104_101.out NB104_110.out⟩, ⟨uB3 HB (IsS115.ge HI104.out) GE101.out GE110.out⟩⟩
       ·
        rw [if_neg c50] at H; exact absurd H (by simp)
      ·
       rw [if_neg c48] at H; have c48b0 : decide (x9_2 < t105) = false := decide_eq_false c48; clear c48; simp only [Option.some.injEq, Prod.mk.injEq] at H; obtain ⟨rfl, rfl, rfl⟩ := H; have hnb56 := NB110_101.out; have hnc56 := NB101_110.out; have hnb57 := NB110_104.out; have hnc57 := NB104_110.out; have hcz58_0 : wr.cell? ⟨gb110, 0, none⟩ = some (.int .i64 t105) := (blk_cell BK110.out 0).trans rfl; have hcz58_1 : wr.cell? ⟨gb110, 1, none⟩ = some (.slice Ao12 t106.length co12) := (blk_cell BK110.out 1).trans rfl; have hfz58_0 := blk_frozen BK110.out 0; have hfz58_1 := blk_frozen BK110.out 1; have hnb59 := NB101_104.out; have hnc59 := NB104_101.out; have hcz60_0 : wr.cell? ⟨gb101, 0, none⟩ = some (.int .i64 0) := (blk_cell BK101.out 0).trans rfl; have hcz60_1 : wr.cell? ⟨gb101, 1, none⟩ = some (.slice none 0 0) := (blk_cell BK101.out 1).trans rfl; have hfz60_0 := blk_frozen BK101.out 0; have hfz60_1 := blk_frozen BK101.out 1; go_wp2; refine bodyPost_ret (results_ct rfl _ _ gb101 25 #[.int .i64 t105, .slice Ao12 t106.length co12] (0, 0) _ rfl (by (with_reducible repeat first | apply zbn | apply zbd | apply zba); refine blk_put (cs := #[.int .i64 t105, .slice none 0 0]) ?_ 1 _ rfl; (with_reducible repeat first | apply zbn | apply zbd | apply zba); refine blk_put (cs := #[.int .i64 0, .slice none 0 0]) ?_ 0 _ rfl; exact ub BK101) Try.underlying25 rfl (by kernel_rfl)) rfl ?_; exact ⟨_, _, by first | rfl | (simp [errW_none, errW_some] <;> rfl) | (simp [*, errW_none, errW_some] <;> rfl), by (with_reducible repeat (first | apply Kd.R_alloc | apply Kd.R_drewN | apply Kd.R_drew)); exact Kd.R_mono (Kd.R_far (p := ⟨gb101, 1, none⟩) (Kd.R_far (p := ⟨gb101, 0, none⟩) (Kd.R_types HO_111001.out BK101.out (by decide)) (fun _ hk => hk.2) (.int .i64 t105)) (fun _ hk => hk.2) (.slice Ao12 t106.length co12)) (fun _ hk => trivial), by (with_reducible repeat (first | apply Kd.R_alloc | apply Kd.R_drewN | apply Kd.R_drew)); exact Kd.R_mono (Kd.R_far (p := ⟨gb101, 1, none⟩) (Kd.R_far (p := ⟨gb101, 0, none⟩) (Kd.R_types HO_8.out BK101.out (by decide)) (fun _ hk => hk.2) (.int .i64 t105)) (fun _ hk => hk.2) (.slice Ao12 t106.length co12)) (fun _ hk => trivial), uB3 HB (IsS115.ge HI104.out) GE101.out GE110.out⟩

end Go.Proofs.Ytjmpngfgfddpaaa.P
