-- written for this claim by a program (wip/gen/myprint.py over the print tool). Not trusted: Lean checks it.
import Derived.Test.YtblpdfgplifccaaPx0
import Derived.Test.YtblpdfgplifccaaHUp
import Derived.Test.YtblpdfgplifccaaPFSpecL10Edge
import Derived.Test.YtblpdfgplifccaaPFSpecL3All
import Derived.Test.YtblpdfgplifccaaPFSpecL8Grid
import Derived.Test.YtblpdfgplifccaaPFSpecL10In
namespace Go.Proofs.Ytblpdfgplifccaa.P
open Go.RowKit Go.Proofs.YtblpdfgplifccaaV.PrintWords Go.Proofs.YtblpdfgplifccaaV.PrintLast
set_option linter.unusedVariables false
set_option linter.unusedSimpArgs false

/-! ### spec_l10Over: function 91 -/
mutual
def spec_l10Over.l0 : Nat → List Int → List (List Int) → Int → Int → List (S33) → Option ((List (List Int)))
 | 0, _, _, _, _, _ => none
 | k + 1, x1, x5, x6, x102000, x102001 => if x6 < (x102001.length : Int) then (if 0 ≤ x6 then (if 0 ≤ ((rd_T33 x102001 x6).f0) then (if ((rd_T33 x102001 x6).f0) < (x1.length : Int) then (if 0 ≤ ((rd_T33 x102001 x6).f1) then (if ((rd_T33 x102001 x6).f1) < (x1.length : Int) then (if (rd x1 ((rd_T33 x102001 x6).f0)) = (rd x1 ((rd_T33 x102001 x6).f1)) then (spec_l10Over.l0 k x1 x5 (wrap64 (x6 + 1)) x102000 x102001) else (if ((rd_T33 x102001 x6).f0) < (x5.length : Int) then (if ((rd_T33 x102001 x6).f1) < ((rd_L5 x5 ((rd_T33 x102001 x6).f0)).length : Int) then (if ((rd_T33 x102001 x6).f2) < (rd (rd_L5 x5 ((rd_T33 x102001 x6).f0)) ((rd_T33 x102001 x6).f1)) then (spec_l10Over.l0 k x1 (x5.set (((rd_T33 x102001 x6).f0) : Int).toNat ((rd_L5 x5 ((rd_T33 x102001 x6).f0)).set (((rd_T33 x102001 x6).f1) : Int).toNat ((rd_T33 x102001 x6).f2))) (wrap64 (x6 + 1)) x102000 x102001) else (spec_l10Over.l0 k x1 x5 (wrap64 (x6 + 1)) x102000 x102001)) else (none)) else (none))) else (none)) else (none)) else (none)) else (none)) else (none)) else (spec_l10Over.l1 k x1 x5 0 x102000 x102001)
def spec_l10Over.l1 : Nat → List Int → List (List Int) → Int → Int → List (S33) → Option ((List (List Int)))
 | 0, _, _, _, _, _ => none
 | k + 1, x1, x5, x8, x102000, x102001 => if x8 < x102000 then (if 0 ≤ x8 then (if x8 < (x1.length : Int) then ((spec_l10In.f k x102000 x102001 x1 (rd x1 x8)).bind fun bt116 => ((spec_l3All.f k bt116.1 bt116.2 x8).bind fun t120 => (spec_l10Over.l2 k x1 x5 x8 t120 0 x102000 x102001))) else (none)) else (none)) else (some x5)
def spec_l10Over.l2 : Nat → List Int → List (List Int) → Int → List Int → Int → Int → List (S33) → Option ((List (List Int)))
 | 0, _, _, _, _, _, _, _ => none
 | k + 1, x1, x5, x8, x9, x10, x102000, x102001 => if x10 < x102000 then (if x8 = x10 then (spec_l10Over.l2 k x1 x5 x8 x9 (wrap64 (x10 + 1)) x102000 x102001) else (if 0 ≤ x8 then (if x8 < (x1.length : Int) then (if 0 ≤ x10 then (if x10 < (x1.length : Int) then (if (rd x1 x8) = (rd x1 x10) then ((spec_l10Edge.f k x102000 x102001 x1 x8).bind fun t125 => (if t125 = true then ((spec_l10Edge.f k x102000 x102001 x1 x10).bind fun t126 => (if t126 = true then (if x10 < (x9.length : Int) then (if x8 < (x5.length : Int) then (if x10 < ((rd_L5 x5 x8).length : Int) then (if (rd x9 x10) < (rd (rd_L5 x5 x8) x10) then (spec_l10Over.l2 k x1 (x5.set (x8 : Int).toNat ((rd_L5 x5 x8).set (x10 : Int).toNat (rd x9 x10))) x8 x9 (wrap64 (x10 + 1)) x102000 x102001) else (spec_l10Over.l2 k x1 x5 x8 x9 (wrap64 (x10 + 1)) x102000 x102001)) else (none)) else (none)) else (none)) else (spec_l10Over.l2 k x1 x5 x8 x9 (wrap64 (x10 + 1)) x102000 x102001))) else (spec_l10Over.l2 k x1 x5 x8 x9 (wrap64 (x10 + 1)) x102000 x102001))) else (spec_l10Over.l2 k x1 x5 x8 x9 (wrap64 (x10 + 1)) x102000 x102001)) else (none)) else (none)) else (none)) else (none))) else (spec_l10Over.l1 k x1 x5 (wrap64 (x8 + 1)) x102000 x102001)
end
def spec_l10Over.f (k : Nat) (a0_0 : Int) (l0_1 : List (S33)) (l1 : List Int) : Option ((List (List Int))) := (spec_l8Grid.f k a0_0 ([] : List (S33))).bind fun t102 => (spec_l10Over.l0 k l1 t102 0 a0_0 l0_1)
def spec_l10Over.T6 : Bool × List (List Nat × List Nat) := (true, [([], []), ([], []), ([1], [1]), ([0, 2], [0, 2]), ([3], [3]), ([], []), ([], []), ([6], [6]), ([5, 7], [5, 7]), ([8], [8]), ([4, 9], [4, 9]), ([10], [10]), ([11], [11]), ([12, 11], [11, 12]), ([11], [11]), ([11], [11]), ([15, 11], [11, 15]), ([14, 16, 11], [11, 14, 16]), ([17, 11], [11, 17]), ([11], [11]), ([19, 11], [11, 19]), ([18, 20, 11], [11, 18, 20]), ([21, 11], [11, 21]), ([13, 22, 11], [11, 13, 22]), ([11, 23], [11, 23])])
def spec_l10Over.B6 : List Nat := [0, 0, 2, 7, 15, 0, 0, 64, 224, 480, 1023, 2047, 4095, 8191, 4095, 4095, 36863, 118783, 249855, 4095, 528383, 2084863, 4182015, 8388607, 16777215]
theorem spec_l10Over.tab6 : rtab .any (opsOf Try.f91 6) = spec_l10Over.T6 := by kernel_rfl
theorem spec_l10Over.bits6 : waitsOk spec_l10Over.T6.2 spec_l10Over.B6 = true := by kernel_rfl
def spec_l10Over.T7 : Bool × List (List Nat × List Nat) := (true, [([], []), ([], []), ([1], [1]), ([0, 2], [0, 2]), ([3], [3]), ([], []), ([5], [5]), ([], []), ([7], [7]), ([4, 6, 0, 1, 2, 3, 4, 5, 6, 7, 8], [4, 6]), ([9, 8, 0, 1, 2, 3, 4, 5, 6, 7, 8], [8, 9])])
def spec_l10Over.B7 : List Nat := [0, 0, 2, 7, 15, 0, 32, 0, 128, 511, 1023]
theorem spec_l10Over.tab7 : rtab .any (opsOf Try.f91 7) = spec_l10Over.T7 := by kernel_rfl
theorem spec_l10Over.bits7 : waitsOk spec_l10Over.T7.2 spec_l10Over.B7 = true := by kernel_rfl
def spec_l10Over.T11 : Bool × List (List Nat × List Nat) := (true, [([], []), ([], []), ([], []), ([], []), ([2, 3], [2, 3]), ([4], [4]), ([0, 1, 5], [0, 1, 5]), ([], []), ([6, 7, 6], [6, 7]), ([8, 8, 0, 1, 2, 3, 4, 5, 6, 7, 8], [8])])
def spec_l10Over.B11 : List Nat := [0, 0, 0, 0, 12, 28, 63, 0, 255, 511]
theorem spec_l10Over.tab11 : rtab .any (opsOf Try.f91 11) = spec_l10Over.T11 := by kernel_rfl
theorem spec_l10Over.bits11 : waitsOk spec_l10Over.T11.2 spec_l10Over.B11 = true := by kernel_rfl
def spec_l10Over.T15 : Bool × List (List Nat × List Nat) := (true, [([], []), ([], []), ([0, 1], [0, 1]), ([2], [2]), ([3], [3]), ([3], [3]), ([4, 5, 3], [3, 4, 5]), ([6, 3], [3, 6]), ([3], [3]), ([3], [3]), ([8, 9, 3], [3, 8, 9]), ([10, 3], [3, 10]), ([7, 11, 3], [3, 7, 11]), ([3, 12], [3, 12]), ([13, 3], [13]), ([14], [14]), ([14], [14]), ([14], [14]), ([15, 16, 17, 14, 14], [14, 15, 16, 17]), ([14, 18], [14, 18]), ([19, 18], [19]), ([20], [20]), ([20], [20]), ([20], [20]), ([21, 22, 23, 20, 20], [20, 21, 22, 23]), ([20, 24], [20, 24]), ([25, 24], [25]), ([26], [26]), ([26], [26]), ([27, 28, 26], [26, 27, 28]), ([29, 26], [26, 29]), ([26], [26]), ([26], [26]), ([31, 32, 26], [26, 31, 32]), ([33, 26], [26, 33]), ([26], [26]), ([34, 35, 26], [26, 34, 35]), ([36, 26], [26, 36]), ([30, 37, 26], [26, 30, 37]), ([26, 38], [26, 38])])
def spec_l10Over.B15 : List Nat := [0, 0, 3, 7, 15, 15, 63, 127, 15, 15, 783, 1807, 4095, 8191, 16383, 32767, 32767, 32767, 262143, 524287, 1048575, 2097151, 2097151, 2097151, 16777215, 33554431, 67108863, 134217727, 134217727, 536870911, 1073741823, 134217727, 134217727, 6576668671, 15166603263, 134217727, 66706210815, 135425687551, 274877906943, 549755813887]
theorem spec_l10Over.tab15 : rtab .any (opsOf Try.f91 15) = spec_l10Over.T15 := by kernel_rfl
theorem spec_l10Over.bits15 : waitsOk spec_l10Over.T15.2 spec_l10Over.B15 = true := by kernel_rfl
def spec_l10Over.T16 : Bool × List (List Nat × List Nat) := (true, [([], []), ([], []), ([0, 1], [0, 1]), ([2], [2]), ([], []), ([], []), ([], []), ([5, 6], [5, 6]), ([7], [7]), ([3, 4, 0, 1, 2, 3, 4, 5, 6, 7, 8], [3, 4]), ([9, 8, 0, 1, 2, 3, 4, 5, 6, 7, 8], [8, 9])])
def spec_l10Over.B16 : List Nat := [0, 0, 3, 7, 0, 0, 0, 96, 224, 511, 1023]
theorem spec_l10Over.tab16 : rtab .any (opsOf Try.f91 16) = spec_l10Over.T16 := by kernel_rfl
theorem spec_l10Over.bits16 : waitsOk spec_l10Over.T16.2 spec_l10Over.B16 = true := by kernel_rfl
set_option maxHeartbeats 8000000 in
set_option maxRecDepth 100000 in
theorem spec_l10Over.calls (k : Nat) (a0_0 : Int) (A0_1 : Option Addr) (c0_1 : Nat) (l0_1 : List (S33)) (A1 : Option Addr) (c1 : Nat) (l1 : List Int) (r : List (List Int)) (w : World) (hr0_1 : Kd.C k33 w A0_1 l0_1.length l0_1) (hc0_1 : l0_1.length ≤ c0_1) (hr1 : Kd.C (Kd.int .i64) w A1 l1.length l1) (hc1 : l1.length ≤ c1) (h : spec_l10Over.f k a0_0 l0_1 l1 = some r) :
  Calls Try.prog 91 #[.agg #[.int .i64 a0_0, .slice A0_1 l0_1.length c0_1], .slice A1 l1.length c1] w fun e w' => ∃ v0_ : Value, e = .returned (v0_) ∧ Kd.S (Kd.slice 3 (Kd.int .i64)) 26 w' w.heap.size (fun _ => True) v0_ r ∧ Below w.heap.size w w' := by
 have hu25 := Try.underlying25
 have hu33 := Try.underlying33
 have HR0_1 := Aside0.mk hr0_1
 have HC0_1 := Aside0.mk hc0_1
 clear hr0_1 hc0_1
 have HR1 := Aside0.mk hr1
 have HC1 := Aside0.mk hc1
 clear hr1 hc1
 have HB := Aside0.mk (Below.refl w.heap.size w)
 have H : ((spec_l8Grid.f k a0_0 ([] : List (S33))).bind fun t102 => (spec_l10Over.l0 k l1 t102 0 a0_0 l0_1)) = some r := h
 clear h
 replace H := Option.bind_eq_some_iff.mp H
 obtain ⟨t102, A30, H⟩ := H
 replace H : (spec_l10Over.l0 k l1 t102 0 a0_0 l0_1) = some r := H
 have A3 := Aside0.mk A30
 clear A30
 have H' := Aside0.mk H
 clear H
 go_enter Try.func91, Try.ntmps91
 go_wp2_with (first | ((with_reducible refine gate_dst (N := 2) rfl ?_); refine be (cs := #[.int .i64 a0_0, .slice A0_1 l0_1.length c0_1]) (t := 25) ?_; intro gb101 hg w4 hbox hb; have BK101 := Aside0.mk (hbox); have GW101 := gz w hg (uB0 HB); have GE101 := gz w hg (uB0 HB); replace HB := Aside0.mk (below_step (uB0 HB) hb); clear hb hbox hg; obtain ⟨hcz5_0, hcz5_1, hfz5_0, hfz5_1⟩ := bc2 BK101) | ((with_reducible refine gate_callee (f := 115) rfl ?_); refine goesL_ (some 14) rfl rfl Try.func115 (by kernel_rfl) rfl #[.agg #[.int .i64 a0_0, .slice none 0 0]] rfl ul ?_; (refine (spec_l8Grid.calls k a0_0 _ _ ([] : List (S33)) t102 _ ?side1 ?side2 A3.out).mono ?_); (case side1 => exact Kd.C_nil _ _); (case side2 => exact Nat.le_refl _); rintro e w6 ⟨v103, rfl, ho0, hb⟩; refine ⟨_, rfl, ?_⟩; have HO104 := Aside0.mk (Kd.S_lower ho0 (below_size (uB1 HB GE101.out))); replace BK101 := bb BK101 hb; replace HB := Aside0.mk (below_step (uB1 HB GE101.out) hb); (try clear hb); (try clear hb2); (try clear hk); (try clear hi); (try clear ho0)))
 go_loopg [6] k (fun kq v6 w' => ∃ (x5_1 : List (List Int)) (x6_1 : Int), v6 = .int .i64 x6_1 ∧ Aside0 (spec_l10Over.l0 kq l1 x5_1 x6_1 a0_0 l0_1 = some r) ∧ Aside0 (kq ≤ k) ∧ Aside0 (Kd.S (Kd.slice 3 (Kd.int .i64)) 26 w' w.heap.size (fun _ => True) v103 x5_1) ∧ Aside0 (w'.heap[gb101]? = some (.cells #[.int .i64 a0_0, (.slice A0_1 l0_1.length c0_1)] 25 (0, 0))) ∧ Aside0 (Below w.heap.size w w'))
 case atStart => exact ⟨(t102), (0), ue, H', ⟨Nat.le_refl _⟩, ⟨by (with_reducible repeat (first | apply Kd.S_alloc | apply Kd.S_drewN | apply Kd.S_drew)); exact HO104.out⟩, ⟨ub BK101⟩, ⟨uB1 HB GE101.out⟩⟩
 case round =>
  clear H'; try clear c1
  try clear p2
  try clear hcz5_0 hcz5_1 hfz5_0 hfz5_1
  obtain ⟨x5_1, x6_1, rfl, HA, HK1, HO_5, BK101, HB⟩ := hrel
  cases gk with
  | zero => exact absurd HA.out (by simp [spec_l10Over.l0])
  | succ k1 =>
   have H := HA.out; clear HA; simp only [spec_l10Over.l0] at H; by_cases c7 : x6_1 < (l0_1.length : Int)
   ·
    rw [if_pos c7] at H; have c7b0 := dl c7; clear c7; by_cases c8 : 0 ≤ x6_1
    ·
     rw [if_pos c8] at H; have c8b0 := de c8; clear c8; by_cases c9 : 0 ≤ ((rd_T33 l0_1 x6_1).f0)
     ·
      rw [if_pos c9] at H; have c9b0 := de c9; clear c9; by_cases c10 : ((rd_T33 l0_1 x6_1).f0) < (l1.length : Int)
      ·
       rw [if_pos c10] at H; have c10b0 := dl c10; clear c10; by_cases c11 : 0 ≤ ((rd_T33 l0_1 x6_1).f1)
       ·
        rw [if_pos c11] at H; have c11b0 := de c11; clear c11; by_cases c12 : ((rd_T33 l0_1 x6_1).f1) < (l1.length : Int)
        ·
         rw [if_pos c12] at H; have c12b0 := dl c12; clear c12; by_cases c13 : (rd l1 ((rd_T33 l0_1 x6_1).f0)) = (rd l1 ((rd_T33 l0_1 x6_1).f1))
         ·
          rw [if_pos c13] at H; obtain ⟨c13b0, c13b1⟩ := dq c13; clear c13; have H' := Aside0.mk H; clear H; obtain ⟨hcz14_0, hcz14_1, hfz14_0, hfz14_1⟩ := bc2 BK101; have p105 : 0 ≤ (x6_1 : Int) := ua; have q105 : x6_1 < (l0_1.length : Int) := ua; obtain ⟨ad105, e105, hx105_0, hx105_1, hx105_2, hx105_3, hx105_4⟩ := at_T33 HR0_1.out x6_1 p105 q105
          cases e105
          replace hx105_0 := uc HB hx105_0; replace hx105_1 := uc HB hx105_1; replace hx105_2 := uc HB hx105_2; replace hx105_3 := uc HB hx105_3; replace hx105_4 := uc HB hx105_4; replace p105 := eq_true p105; replace q105 := eq_true q105; try go_wp2_with (first | ((with_reducible refine gate_dst (N := 7) rfl ?_); refine be (cs := #[.int .i64 0, .int .i64 0, .int .i64 0, .int .i64 0, .int .i64 0]) (t := 33) ?_; intro gb106 hg w15 hbox hb; replace HO_5 := Aside0.mk (Kd.S_below (by (with_reducible repeat (first | apply Kd.S_alloc | apply Kd.S_drewN | apply Kd.S_drew)); exact HO_5.out) hb); have BK106 := Aside0.mk (hbox); have GW106 := gz w hg (uB1 HB GE101.out); have GE106 := gz w hg (uB1 HB GE101.out); replace HB := Aside0.mk (below_step (uB1 HB GE101.out) hb); have NB101_106 := gl hg BK101; have NB106_101 := gr hg BK101; replace BK101 := bb BK101 hb; clear hb hbox hg; have hnb16 := NB106_101.out; have hnc16 := NB101_106.out; obtain ⟨hcz17_0, hcz17_1, hcz17_2, hcz17_3, hcz17_4, hfz17_0, hfz17_1, hfz17_2, hfz17_3, hfz17_4⟩ := bc5 BK106))
          have n0_ : Aside0 (Kd.S (Kd.slice 3 (Kd.int .i64)) 26 (((((w15.setCell ⟨gb106, 0, none⟩ (.int .i64 ((rd_T33 l0_1 x6_1).f0))).setCell ⟨gb106, 1, none⟩ (.int .i64 ((rd_T33 l0_1 x6_1).f1))).setCell ⟨gb106, 2, none⟩ (.int .i64 ((rd_T33 l0_1 x6_1).f2))).setCell ⟨gb106, 3, none⟩ (.int .i64 ((rd_T33 l0_1 x6_1).f3))).setCell ⟨gb106, 4, none⟩ (.int .i64 ((rd_T33 l0_1 x6_1).f4))) w.heap.size (fun _ => True) v103 x5_1) := ⟨by (with_reducible repeat (first | apply Kd.S_alloc | apply Kd.S_drewN | apply Kd.S_drew)); exact Kd.S_mono (Kd.S_far (p := ⟨gb106, 4, none⟩) (Kd.S_far (p := ⟨gb106, 3, none⟩) (Kd.S_far (p := ⟨gb106, 2, none⟩) (Kd.S_far (p := ⟨gb106, 1, none⟩) (Kd.S_far (p := ⟨gb106, 0, none⟩) (Kd.S_types HO_5.out BK106.out (by decide)) (fun _ hk => hk.2) (.int .i64 ((rd_T33 l0_1 x6_1).f0))) (fun _ hk => hk.2) (.int .i64 ((rd_T33 l0_1 x6_1).f1))) (fun _ hk => hk.2) (.int .i64 ((rd_T33 l0_1 x6_1).f2))) (fun _ hk => hk.2) (.int .i64 ((rd_T33 l0_1 x6_1).f3))) (fun _ hk => hk.2) (.int .i64 ((rd_T33 l0_1 x6_1).f4))) (fun _ hk => trivial)⟩
          have n1_ : Aside0 ((((((w15.setCell ⟨gb106, 0, none⟩ (.int .i64 ((rd_T33 l0_1 x6_1).f0))).setCell ⟨gb106, 1, none⟩ (.int .i64 ((rd_T33 l0_1 x6_1).f1))).setCell ⟨gb106, 2, none⟩ (.int .i64 ((rd_T33 l0_1 x6_1).f2))).setCell ⟨gb106, 3, none⟩ (.int .i64 ((rd_T33 l0_1 x6_1).f3))).setCell ⟨gb106, 4, none⟩ (.int .i64 ((rd_T33 l0_1 x6_1).f4))).heap[gb101]? = some (.cells #[.int .i64 a0_0, .slice (some ad105) l0_1.length c0_1] 25 (0, 0))) := ⟨by (with_reducible repeat first | apply zbn | apply zbd | apply zba); refine fa5 ?_ NB101_106; exact ub BK101⟩
          have n2_ : Aside0 ((((((w15.setCell ⟨gb106, 0, none⟩ (.int .i64 ((rd_T33 l0_1 x6_1).f0))).setCell ⟨gb106, 1, none⟩ (.int .i64 ((rd_T33 l0_1 x6_1).f1))).setCell ⟨gb106, 2, none⟩ (.int .i64 ((rd_T33 l0_1 x6_1).f2))).setCell ⟨gb106, 3, none⟩ (.int .i64 ((rd_T33 l0_1 x6_1).f3))).setCell ⟨gb106, 4, none⟩ (.int .i64 ((rd_T33 l0_1 x6_1).f4))).heap[gb106]? = some (.cells #[.int .i64 ((rd_T33 l0_1 x6_1).f0), .int .i64 ((rd_T33 l0_1 x6_1).f1), .int .i64 ((rd_T33 l0_1 x6_1).f2), .int .i64 ((rd_T33 l0_1 x6_1).f3), .int .i64 ((rd_T33 l0_1 x6_1).f4)] 33 (0, 0))) := ⟨by (with_reducible repeat first | apply zbn | apply zbd | apply zba); refine pu5 (.int .i64 0) (.int .i64 0) (.int .i64 0) (.int .i64 0) (.int .i64 0) ?_; exact ub BK106⟩
          have n3_ : Aside0 (Below w.heap.size w (((((w15.setCell ⟨gb106, 0, none⟩ (.int .i64 ((rd_T33 l0_1 x6_1).f0))).setCell ⟨gb106, 1, none⟩ (.int .i64 ((rd_T33 l0_1 x6_1).f1))).setCell ⟨gb106, 2, none⟩ (.int .i64 ((rd_T33 l0_1 x6_1).f2))).setCell ⟨gb106, 3, none⟩ (.int .i64 ((rd_T33 l0_1 x6_1).f3))).setCell ⟨gb106, 4, none⟩ (.int .i64 ((rd_T33 l0_1 x6_1).f4)))) := ⟨uB2 HB GE101.out GE106.out⟩
          (try clear HO_5); (try clear BK101); (try clear BK106); (try clear HB); generalize (((((w15.setCell ⟨gb106, 0, none⟩ (.int .i64 ((rd_T33 l0_1 x6_1).f0))).setCell ⟨gb106, 1, none⟩ (.int .i64 ((rd_T33 l0_1 x6_1).f1))).setCell ⟨gb106, 2, none⟩ (.int .i64 ((rd_T33 l0_1 x6_1).f2))).setCell ⟨gb106, 3, none⟩ (.int .i64 ((rd_T33 l0_1 x6_1).f3))).setCell ⟨gb106, 4, none⟩ (.int .i64 ((rd_T33 l0_1 x6_1).f4))) = w18 at n0_ n1_ n2_ n3_ ⊢; have HO_5 := n0_; have BK101 := n1_; have BK106 := n2_; have HB := n3_; clear n0_ n1_ n2_ n3_; replace HO_5 := Aside0.mk (Kd.S_drew HO_5.out); replace BK101 := Aside0.mk (blk_drew BK101.out); replace BK106 := Aside0.mk (blk_drew BK106.out); replace HB := Aside0.mk (below_drew1 HB.out); have p107 : 0 ≤ (((rd_T33 l0_1 x6_1).f0) : Int) := ua; have q107 : ((rd_T33 l0_1 x6_1).f0) < (l1.length : Int) := ua; obtain ⟨ad107, e107, hx107_0⟩ := Kd.at_int HR1.out ((rd_T33 l0_1 x6_1).f0) p107 q107; have hw107_0 := hx107_0
          cases e107
          replace hx107_0 := uc HB hx107_0; replace p107 := eq_true p107; replace q107 := eq_true q107; have p108 : 0 ≤ (((rd_T33 l0_1 x6_1).f1) : Int) := ua; have q108 : ((rd_T33 l0_1 x6_1).f1) < (l1.length : Int) := ua; obtain ⟨ad108, e108, hx108_0⟩ := Kd.at_int HR1.out ((rd_T33 l0_1 x6_1).f1) p108 q108; have hw108_0 := hx108_0; obtain rfl : ad107 = ad108 := (by injection e108)
          replace hx108_0 := uc HB hx108_0; replace p108 := eq_true p108; replace q108 := eq_true q108; refine start_ (n := 25) (S := fun w' => w'.cell? ⟨gb106, 0, none⟩ = some (.int .i64 ((rd_T33 l0_1 x6_1).f0)) ∧ w'.cell? ⟨gb106, 1, none⟩ = some (.int .i64 ((rd_T33 l0_1 x6_1).f1)) ∧ w'.cell? ⟨gb106, 2, none⟩ = some (.int .i64 ((rd_T33 l0_1 x6_1).f2)) ∧ w'.cell? ⟨gb106, 3, none⟩ = some (.int .i64 ((rd_T33 l0_1 x6_1).f3)) ∧ w'.cell? ⟨gb106, 4, none⟩ = some (.int .i64 ((rd_T33 l0_1 x6_1).f4)) ∧ w'.cell? (ad107.add (((rd_T33 l0_1 x6_1).f0)).toNat) = some (.int .i64 (rd l1 ((rd_T33 l0_1 x6_1).f0))) ∧ w'.cell? (ad107.add (((rd_T33 l0_1 x6_1).f1)).toNat) = some (.int .i64 (rd l1 ((rd_T33 l0_1 x6_1).f1)))) (ds := []) (zt 25 0) (by kernel_rfl) rfl (by kernel_rfl) (b5x BK106 ⟨(ud HB hw107_0), (ud HB hw108_0)⟩) (fun hHeld => ?_); refine with_tabW spec_l10Over.tab6 spec_l10Over.bits6 (fun HT_ HW_ => ?_); generalize w18.drew = w19 at HO_5 BK101 BK106 HB hx107_0 hx108_0 hHeld ⊢; refine qz HT_ 0 ?_; refine qz HT_ 1 ?_; refine qz HT_ 5 ?_; refine qz HT_ 6 ?_; refine qt HT_ HW_ hHeld 2 ?_; refine qz HT_ 3 ?_; refine qt HT_ HW_ hHeld 4 ?_; refine qt HT_ HW_ hHeld 7 ?_; refine qz HT_ 8 ?_; refine qt HT_ HW_ hHeld 9 ?_; refine qz HT_ 10 ?_; refine qz HT_ 11 ?_; refine qn HT_ 12 ?_; refine qn HT_ 13 ?_; refine qn HT_ 14 ?_; refine qn HT_ 15 ?_; refine qn HT_ 16 ?_; refine qn HT_ 17 ?_; refine qn HT_ 18 ?_; refine qn HT_ 19 ?_; refine qn HT_ 20 ?_; refine qn HT_ 21 ?_; refine qn HT_ 22 ?_; refine qn HT_ 23 ?_; refine qz HT_ 24 ?_; refine done_ (done_of HT_.out (by kernel_rfl)) ?_; try go_wp2
          go_roundg k1
          case measure => have := HK1.out; omega
          case rel => exact ⟨(x5_1), (wrap64 (x6_1 + 1)), ue, H', ⟨by have := HK1.out; omega⟩, ⟨by (with_reducible repeat (first | apply Kd.S_alloc | apply Kd.S_drewN | apply Kd.S_drew)); exact HO_5.out⟩, ⟨ub BK101⟩, ⟨uB2 HB GE101.out GE106.out⟩⟩
         ·
          rw [if_neg c13] at H; obtain ⟨c13b0, c13b1⟩ := dQ c13; by_cases c20 : ((rd_T33 l0_1 x6_1).f0) < (x5_1.length : Int)
          ·
           rw [if_pos c20] at H; have c20b0 := dl c20; clear c20; by_cases c21 : ((rd_T33 l0_1 x6_1).f1) < ((rd_L5 x5_1 ((rd_T33 l0_1 x6_1).f0)).length : Int)
           ·
            rw [if_pos c21] at H; have c21b0 := dl c21; clear c21; have HH_ := Aside0.mk H; clear H; obtain ⟨hcz22_0, hcz22_1, hfz22_0, hfz22_1⟩ := bc2 BK101; have p105 : 0 ≤ (x6_1 : Int) := ua; have q105 : x6_1 < (l0_1.length : Int) := ua; obtain ⟨ad105, e105, hx105_0, hx105_1, hx105_2, hx105_3, hx105_4⟩ := at_T33 HR0_1.out x6_1 p105 q105
            cases e105
            replace hx105_0 := uc HB hx105_0; replace hx105_1 := uc HB hx105_1; replace hx105_2 := uc HB hx105_2; replace hx105_3 := uc HB hx105_3; replace hx105_4 := uc HB hx105_4; replace p105 := eq_true p105; replace q105 := eq_true q105; try go_wp2_with (first | ((with_reducible refine gate_dst (N := 7) rfl ?_); refine be (cs := #[.int .i64 0, .int .i64 0, .int .i64 0, .int .i64 0, .int .i64 0]) (t := 33) ?_; intro gb106 hg w23 hbox hb; replace HO_5 := Aside0.mk (Kd.S_below (by (with_reducible repeat (first | apply Kd.S_alloc | apply Kd.S_drewN | apply Kd.S_drew)); exact HO_5.out) hb); have BK106 := Aside0.mk (hbox); have GW106 := gz w hg (uB1 HB GE101.out); have GE106 := gz w hg (uB1 HB GE101.out); replace HB := Aside0.mk (below_step (uB1 HB GE101.out) hb); have NB101_106 := gl hg BK101; have NB106_101 := gr hg BK101; replace BK101 := bb BK101 hb; clear hb hbox hg; have hnb24 := NB106_101.out; have hnc24 := NB101_106.out; obtain ⟨hcz25_0, hcz25_1, hcz25_2, hcz25_3, hcz25_4, hfz25_0, hfz25_1, hfz25_2, hfz25_3, hfz25_4⟩ := bc5 BK106))
            have n0_ : Aside0 (Kd.S (Kd.slice 3 (Kd.int .i64)) 26 (((((w23.setCell ⟨gb106, 0, none⟩ (.int .i64 ((rd_T33 l0_1 x6_1).f0))).setCell ⟨gb106, 1, none⟩ (.int .i64 ((rd_T33 l0_1 x6_1).f1))).setCell ⟨gb106, 2, none⟩ (.int .i64 ((rd_T33 l0_1 x6_1).f2))).setCell ⟨gb106, 3, none⟩ (.int .i64 ((rd_T33 l0_1 x6_1).f3))).setCell ⟨gb106, 4, none⟩ (.int .i64 ((rd_T33 l0_1 x6_1).f4))) w.heap.size (fun _ => True) v103 x5_1) := ⟨by (with_reducible repeat (first | apply Kd.S_alloc | apply Kd.S_drewN | apply Kd.S_drew)); exact Kd.S_mono (Kd.S_far (p := ⟨gb106, 4, none⟩) (Kd.S_far (p := ⟨gb106, 3, none⟩) (Kd.S_far (p := ⟨gb106, 2, none⟩) (Kd.S_far (p := ⟨gb106, 1, none⟩) (Kd.S_far (p := ⟨gb106, 0, none⟩) (Kd.S_types HO_5.out BK106.out (by decide)) (fun _ hk => hk.2) (.int .i64 ((rd_T33 l0_1 x6_1).f0))) (fun _ hk => hk.2) (.int .i64 ((rd_T33 l0_1 x6_1).f1))) (fun _ hk => hk.2) (.int .i64 ((rd_T33 l0_1 x6_1).f2))) (fun _ hk => hk.2) (.int .i64 ((rd_T33 l0_1 x6_1).f3))) (fun _ hk => hk.2) (.int .i64 ((rd_T33 l0_1 x6_1).f4))) (fun _ hk => trivial)⟩
            have n1_ : Aside0 ((((((w23.setCell ⟨gb106, 0, none⟩ (.int .i64 ((rd_T33 l0_1 x6_1).f0))).setCell ⟨gb106, 1, none⟩ (.int .i64 ((rd_T33 l0_1 x6_1).f1))).setCell ⟨gb106, 2, none⟩ (.int .i64 ((rd_T33 l0_1 x6_1).f2))).setCell ⟨gb106, 3, none⟩ (.int .i64 ((rd_T33 l0_1 x6_1).f3))).setCell ⟨gb106, 4, none⟩ (.int .i64 ((rd_T33 l0_1 x6_1).f4))).heap[gb101]? = some (.cells #[.int .i64 a0_0, .slice (some ad105) l0_1.length c0_1] 25 (0, 0))) := ⟨by (with_reducible repeat first | apply zbn | apply zbd | apply zba); refine fa5 ?_ NB101_106; exact ub BK101⟩
            have n2_ : Aside0 ((((((w23.setCell ⟨gb106, 0, none⟩ (.int .i64 ((rd_T33 l0_1 x6_1).f0))).setCell ⟨gb106, 1, none⟩ (.int .i64 ((rd_T33 l0_1 x6_1).f1))).setCell ⟨gb106, 2, none⟩ (.int .i64 ((rd_T33 l0_1 x6_1).f2))).setCell ⟨gb106, 3, none⟩ (.int .i64 ((rd_T33 l0_1 x6_1).f3))).setCell ⟨gb106, 4, none⟩ (.int .i64 ((rd_T33 l0_1 x6_1).f4))).heap[gb106]? = some (.cells #[.int .i64 ((rd_T33 l0_1 x6_1).f0), .int .i64 ((rd_T33 l0_1 x6_1).f1), .int .i64 ((rd_T33 l0_1 x6_1).f2), .int .i64 ((rd_T33 l0_1 x6_1).f3), .int .i64 ((rd_T33 l0_1 x6_1).f4)] 33 (0, 0))) := ⟨by (with_reducible repeat first | apply zbn | apply zbd | apply zba); refine pu5 (.int .i64 0) (.int .i64 0) (.int .i64 0) (.int .i64 0) (.int .i64 0) ?_; exact ub BK106⟩
            have n3_ : Aside0 (Below w.heap.size w (((((w23.setCell ⟨gb106, 0, none⟩ (.int .i64 ((rd_T33 l0_1 x6_1).f0))).setCell ⟨gb106, 1, none⟩ (.int .i64 ((rd_T33 l0_1 x6_1).f1))).setCell ⟨gb106, 2, none⟩ (.int .i64 ((rd_T33 l0_1 x6_1).f2))).setCell ⟨gb106, 3, none⟩ (.int .i64 ((rd_T33 l0_1 x6_1).f3))).setCell ⟨gb106, 4, none⟩ (.int .i64 ((rd_T33 l0_1 x6_1).f4)))) := ⟨uB2 HB GE101.out GE106.out⟩
            (try clear HO_5); (try clear BK101); (try clear BK106); (try clear HB); generalize (((((w23.setCell ⟨gb106, 0, none⟩ (.int .i64 ((rd_T33 l0_1 x6_1).f0))).setCell ⟨gb106, 1, none⟩ (.int .i64 ((rd_T33 l0_1 x6_1).f1))).setCell ⟨gb106, 2, none⟩ (.int .i64 ((rd_T33 l0_1 x6_1).f2))).setCell ⟨gb106, 3, none⟩ (.int .i64 ((rd_T33 l0_1 x6_1).f3))).setCell ⟨gb106, 4, none⟩ (.int .i64 ((rd_T33 l0_1 x6_1).f4))) = w26 at n0_ n1_ n2_ n3_ ⊢; have HO_5 := n0_; have BK101 := n1_; have BK106 := n2_; have HB := n3_; clear n0_ n1_ n2_ n3_; replace HO_5 := Aside0.mk (Kd.S_drew HO_5.out); replace BK101 := Aside0.mk (blk_drew BK101.out); replace BK106 := Aside0.mk (blk_drew BK106.out); replace HB := Aside0.mk (below_drew1 HB.out); have p107 : 0 ≤ (((rd_T33 l0_1 x6_1).f0) : Int) := ua; have q107 : ((rd_T33 l0_1 x6_1).f0) < (l1.length : Int) := ua; obtain ⟨ad107, e107, hx107_0⟩ := Kd.at_int HR1.out ((rd_T33 l0_1 x6_1).f0) p107 q107; have hw107_0 := hx107_0
            cases e107
            replace hx107_0 := uc HB hx107_0; replace p107 := eq_true p107; replace q107 := eq_true q107; have p108 : 0 ≤ (((rd_T33 l0_1 x6_1).f1) : Int) := ua; have q108 : ((rd_T33 l0_1 x6_1).f1) < (l1.length : Int) := ua; obtain ⟨ad108, e108, hx108_0⟩ := Kd.at_int HR1.out ((rd_T33 l0_1 x6_1).f1) p108 q108; have hw108_0 := hx108_0; obtain rfl : ad107 = ad108 := (by injection e108)
            replace hx108_0 := uc HB hx108_0; replace p108 := eq_true p108; replace q108 := eq_true q108; obtain ⟨Ao28, co28, eo28⟩ := Kd.S_slice HO_5.out; (first | subst eo28 | (injection eo28 with f1_ f2_ f3_; have f4_ := f1_.symm; have f5_ := f3_.symm; clear f1_ f2_ f3_; subst f4_; subst f5_)); have p109 : 0 ≤ (((rd_T33 l0_1 x6_1).f0) : Int) := ua; have q109 : ((rd_T33 l0_1 x6_1).f0) < (x5_1.length : Int) := ua; obtain ⟨ad109, A109_0, c109_0, e109, hx109_0, hl109_0, hi109_0⟩ := at_L5 (Kd.S_reads' HO_5.out).2.2 ((rd_T33 l0_1 x6_1).f0) p109 q109
            cases e109
            obtain ⟨ce109, hce109, hMe109, hcc109⟩ := Kd.S_get HO_5.out [] ((rd_T33 l0_1 x6_1).f0) p109 (by first | exact q109 | exact ua | (have e_ := (Kd.S_reads' HO_5.out).1; omega)); obtain ⟨ve109_0, rfl, ge109_0⟩ := hMe109; have hv109_0 := hcc109 0 _ rfl; rw [Nat.add_zero, show ((Kd.slice 3 (Kd.int .i64))).sz = 1 from rfl, Nat.mul_one] at hv109_0; replace hv109_0 := Option.some.inj (hv109_0.symm.trans hx109_0); rw [hv109_0] at ge109_0; have HL109_0 := Aside0.mk (show Kd.R (Kd.int .i64) 3 _ _ _ _ (rd_L5 x5_1 ((rd_T33 l0_1 x6_1).f0)) from ge109_0); clear hv109_0 ge109_0; have HX109_0 := Aside0.mk hx109_0; clear hcc109 hce109; have HR109_0 := Aside0.mk hi109_0; have HC109_0 := Aside0.mk hl109_0; clear hi109_0 hl109_0; replace p109 := eq_true p109; replace q109 := eq_true q109; have p110 : 0 ≤ (((rd_T33 l0_1 x6_1).f1) : Int) := ua; have q110 : ((rd_T33 l0_1 x6_1).f1) < ((rd_L5 x5_1 ((rd_T33 l0_1 x6_1).f0)).length : Int) := ua; obtain ⟨ad110, e110, hx110_0⟩ := Kd.at_int (by repeat (first | (with_reducible exact HR109_0.out) | (with_reducible refine Kd.C_alloc ?_ _) | (with_reducible refine Kd.C_drewN ?_ _) | (with_reducible refine Kd.C_drew ?_) | exact HR109_0.out)) ((rd_T33 l0_1 x6_1).f1) p110 q110
            cases e110
            replace p110 := eq_true p110; replace q110 := eq_true q110; refine start_ (n := 25) (S := fun w' => w'.cell? ⟨gb106, 0, none⟩ = some (.int .i64 ((rd_T33 l0_1 x6_1).f0)) ∧ w'.cell? ⟨gb106, 1, none⟩ = some (.int .i64 ((rd_T33 l0_1 x6_1).f1)) ∧ w'.cell? ⟨gb106, 2, none⟩ = some (.int .i64 ((rd_T33 l0_1 x6_1).f2)) ∧ w'.cell? ⟨gb106, 3, none⟩ = some (.int .i64 ((rd_T33 l0_1 x6_1).f3)) ∧ w'.cell? ⟨gb106, 4, none⟩ = some (.int .i64 ((rd_T33 l0_1 x6_1).f4)) ∧ w'.cell? (ad107.add (((rd_T33 l0_1 x6_1).f0)).toNat) = some (.int .i64 (rd l1 ((rd_T33 l0_1 x6_1).f0))) ∧ w'.cell? (ad107.add (((rd_T33 l0_1 x6_1).f1)).toNat) = some (.int .i64 (rd l1 ((rd_T33 l0_1 x6_1).f1))) ∧ w'.cell? (ad109.add (((rd_T33 l0_1 x6_1).f0)).toNat) = some (.slice (some ad110) (rd_L5 x5_1 ((rd_T33 l0_1 x6_1).f0)).length c109_0) ∧ w'.cell? (ad110.add (((rd_T33 l0_1 x6_1).f1)).toNat) = some (.int .i64 (rd (rd_L5 x5_1 ((rd_T33 l0_1 x6_1).f0)) ((rd_T33 l0_1 x6_1).f1)))) (ds := []) (zt 25 0) (by kernel_rfl) rfl (by kernel_rfl) (b5x BK106 ⟨(ud HB hw107_0), (ud HB hw108_0), hx109_0, hx110_0⟩) (fun hHeld => ?_); refine with_tabW spec_l10Over.tab6 spec_l10Over.bits6 (fun HT_ HW_ => ?_); generalize w26.drew = w27 at HO_5 BK101 BK106 HB HL109_0 HR109_0 HX109_0 hx107_0 hx108_0 hx109_0 hx110_0 hHeld ⊢; refine qz HT_ 0 ?_; refine qz HT_ 1 ?_; refine qz HT_ 5 ?_; refine qz HT_ 6 ?_; refine qt HT_ HW_ hHeld 2 ?_; refine qz HT_ 3 ?_; refine qt HT_ HW_ hHeld 4 ?_; refine qt HT_ HW_ hHeld 7 ?_; refine qz HT_ 8 ?_; refine qt HT_ HW_ hHeld 9 ?_; refine qz HT_ 10 ?_; refine qz HT_ 11 ?_; refine qz HT_ 12 ?_; refine qz HT_ 14 ?_; refine qz HT_ 15 ?_; refine qz HT_ 19 ?_; refine qt HT_ HW_ hHeld 13 ?_; refine qt HT_ HW_ hHeld 16 ?_; refine qz HT_ 17 ?_; refine qt HT_ HW_ hHeld 18 ?_; refine qt HT_ HW_ hHeld 20 ?_; refine qz HT_ 21 ?_; refine qt HT_ HW_ hHeld 22 ?_; refine qz HT_ 23 ?_; refine qz HT_ 24 ?_; refine done_ (done_of HT_.out (by kernel_rfl)) ?_; have H := HH_.out; clear HH_; by_cases c29 : ((rd_T33 l0_1 x6_1).f2) < (rd (rd_L5 x5_1 ((rd_T33 l0_1 x6_1).f0)) ((rd_T33 l0_1 x6_1).f1))
            ·
             rw [if_pos c29] at H; have c29b0 := dl c29; try simp only [c29b0]
             clear c29; obtain ⟨y112, hy112⟩ : ∃ y_ : List Int, y_ = ((rd_L5 x5_1 ((rd_T33 l0_1 x6_1).f0)).set (((rd_T33 l0_1 x6_1).f1) : Int).toNat ((rd_T33 l0_1 x6_1).f2)) := ⟨_, rfl⟩
             replace H : (spec_l10Over.l0 k1 l1 (x5_1.set (((rd_T33 l0_1 x6_1).f0) : Int).toNat y112) (wrap64 (x6_1 + 1)) a0_0 l0_1) = some r := by first | (rw [hy112]; with_reducible exact H) | (have H2_ := (Option.bind_some _ _).symm.trans H; rw [hy112]; with_reducible exact H2_) | (have H2_ := (Option.bind_some _ _).symm.trans H; with_reducible exact H2_) | with_reducible exact H | (rw [hy112]; exact H) | exact H
             have Ny112 := Aside0.mk hy112; clear hy112; obtain ⟨y114, hy114⟩ : ∃ y_ : List (List Int), y_ = (x5_1.set (((rd_T33 l0_1 x6_1).f0) : Int).toNat y112) := ⟨_, rfl⟩
             replace H : (spec_l10Over.l0 k1 l1 y114 (wrap64 (x6_1 + 1)) a0_0 l0_1) = some r := by first | (rw [hy114]; with_reducible exact H) | (have H2_ := (Option.bind_some _ _).symm.trans H; rw [hy114]; with_reducible exact H2_) | (have H2_ := (Option.bind_some _ _).symm.trans H; with_reducible exact H2_) | with_reducible exact H | (rw [hy114]; exact H) | exact H
             have Ny114 := Aside0.mk hy114; clear hy114; have H' := Aside0.mk H; clear H; try go_wp2
             replace HO_5 := Aside0.mk (Kd.S_drew HO_5.out); replace HL109_0 := Aside0.mk (Kd.R_drew HL109_0.out); replace BK101 := Aside0.mk (blk_drew BK101.out); replace BK106 := Aside0.mk (blk_drew BK106.out); replace HR109_0 := Aside0.mk (Kd.C_drew HR109_0.out); replace HB := Aside0.mk (below_drew1 HB.out); have p111 : 0 ≤ (((rd_T33 l0_1 x6_1).f0) : Int) := ua; have q111 : ((rd_T33 l0_1 x6_1).f0) < (x5_1.length : Int) := ua; obtain ⟨ad111, A111_0, c111_0, e111, hx111_0, hl111_0, hi111_0⟩ := at_L5 (Kd.S_reads' HO_5.out).2.2 ((rd_T33 l0_1 x6_1).f0) p111 q111; obtain rfl : ad109 = ad111 := (by injection e111)
             obtain ⟨ce111, hce111, hMe111, hcc111⟩ := Kd.S_get HO_5.out [] ((rd_T33 l0_1 x6_1).f0) p111 (by first | exact q111 | exact ua | (have e_ := (Kd.S_reads' HO_5.out).1; omega)); obtain ⟨ve111_0, rfl, ge111_0⟩ := hMe111; have hv111_0 := hcc111 0 _ rfl; rw [Nat.add_zero, show ((Kd.slice 3 (Kd.int .i64))).sz = 1 from rfl, Nat.mul_one] at hv111_0; replace hv111_0 := Option.some.inj (hv111_0.symm.trans hx111_0); rw [hv111_0] at ge111_0; have HL111_0 := Aside0.mk (show Kd.R (Kd.int .i64) 3 _ _ _ _ (rd_L5 x5_1 ((rd_T33 l0_1 x6_1).f0)) from ge111_0); clear hv111_0 ge111_0; have HX111_0 := Aside0.mk hx111_0; clear hcc111 hce111; have HR111_0 := Aside0.mk hi111_0; have HC111_0 := Aside0.mk hl111_0; clear hi111_0 hl111_0; replace p111 := eq_true p111; replace q111 := eq_true q111; have p30 : 0 ≤ (((rd_T33 l0_1 x6_1).f1) : Int) := ua; have q30 : (((rd_T33 l0_1 x6_1).f1) : Int) < (((rd_L5 x5_1 ((rd_T33 l0_1 x6_1).f0)).length : Int) : Int) := ua; obtain ⟨go30, co30, eo30, gb30, gl30, cl30, HG30⟩ := Kd.R_form HL111_0.out (by omega); (first | cases eo30 | (injection eo30 with ea_ en_ ec_; (first | subst ea_ | (injection ea_ with ea_; subst ea_)); subst ec_; clear en_)); have GB30 := Aside0.mk gb30; have GG30 := Aside0.mk HG30; clear gb30 gl30 HG30; obtain ⟨hx30_0, hf30_0⟩ := Kd.R_celln 0 HL111_0.out (((rd_T33 l0_1 x6_1).f1) : Int) p30 q30; replace p30 := eq_true p30; replace q30 := eq_true q30; have hq30 : (((rd_T33 l0_1 x6_1).f0) : Int) < (x5_1.length : Int) := (by have h_ : (((rd_T33 l0_1 x6_1).f0) : Int) < ((x5_1.length : Int) : Int) := ua; first | exact h_ | (have e_ := (Kd.S_reads' HO_5.out).1; omega) | simpa only [List.length_set, List.length_set] using h_)
             obtain ⟨oki30, ce30, hcl30, hM30, hcc30, hok30, hbk30⟩ := Kd.S_borrow HO_5.out [] (((rd_T33 l0_1 x6_1).f0) : Int) (ua) hq30; obtain ⟨ve30_0, rfl, ge30_0⟩ := hM30; have hv30 := hcc30 0 _ rfl; rw [Nat.add_zero, show ((Kd.slice 3 (Kd.int .i64))).sz = 1 from rfl, Nat.mul_one] at hv30; replace hv30 := Option.some.inj (hv30.symm.trans HX111_0.out); subst hv30; clear hcc30 hcl30; replace ge30_0 := (show Kd.R (Kd.int .i64) 3 _ _ _ _ (rd_L5 x5_1 ((rd_T33 l0_1 x6_1).f0)) from ge30_0)
             have HP30 := Kd.R_putg ge30_0 (((rd_T33 l0_1 x6_1).f1) : Int) ((rd_T33 l0_1 x6_1).f2); rw [← Ny112.out] at HP30; have HS30 := hbk30 HP30.2 (fun k_ e_ => by injection e_ with e_; subst e_; exact ge30_0.1 _ rfl) (x' := y112) (Kd.M_row HP30.1); rw [← Ny114.out] at HS30; have HQ30 := Aside0.mk HS30; clear HP30 HS30 hbk30 hok30; refine start_ (n := 11) (S := fun w' => w'.cell? ⟨gb106, 0, none⟩ = some (.int .i64 ((rd_T33 l0_1 x6_1).f0)) ∧ w'.cell? ⟨gb106, 1, none⟩ = some (.int .i64 ((rd_T33 l0_1 x6_1).f1)) ∧ w'.cell? ⟨gb106, 2, none⟩ = some (.int .i64 ((rd_T33 l0_1 x6_1).f2)) ∧ w'.cell? ⟨gb106, 3, none⟩ = some (.int .i64 ((rd_T33 l0_1 x6_1).f3)) ∧ w'.cell? ⟨gb106, 4, none⟩ = some (.int .i64 ((rd_T33 l0_1 x6_1).f4)) ∧ w'.cell? (ad109.add (((rd_T33 l0_1 x6_1).f0)).toNat) = some (.slice (some ⟨go30, 0, none⟩) (rd_L5 x5_1 ((rd_T33 l0_1 x6_1).f0)).length c111_0)) (ds := [10]) (zt 11 0) (by kernel_rfl) rfl (by kernel_rfl) (b5x BK106 hx111_0) (fun hHeld => ?_); refine with_tabW spec_l10Over.tab7 spec_l10Over.bits7 (fun HT_ HW_ => ?_); generalize w27.drew = w29 at HO_5 HL109_0 BK101 BK106 HR109_0 HB GG30 HL111_0 HQ30 HR111_0 HX111_0 hf30_0 hx111_0 hx30_0 hHeld ⊢; refine qz HT_ 0 ?_; refine qz HT_ 1 ?_; refine qz HT_ 5 ?_; refine qz HT_ 7 ?_; refine qt HT_ HW_ hHeld 2 ?_; refine qz HT_ 3 ?_; refine qt HT_ HW_ hHeld 4 ?_; refine qt HT_ HW_ hHeld 6 ?_; refine qt HT_ HW_ hHeld 8 ?_; refine qz HT_ 9 ?_; refine last_ (i := 10) (N := none) (zt 11 2047) rfl rfl (one_of HT_.out (by kernel_rfl)) (by decide) (fun K hK => ?_); refine skip_ (w1 := ?_) (by rfl) rfl ?_ ?_; rotate_left
             ·
              go_simp; rfl
             refine hK.out _ _ ?_; clear hK K; refine done_ (done_of HT_.out (by kernel_rfl)) ?_; try go_wp2
             go_roundg k1
             case measure => have := HK1.out; omega
             case rel => exact ⟨(y114), (wrap64 (x6_1 + 1)), ue, H', ⟨by have := HK1.out; omega⟩, ⟨by (with_reducible repeat (first | apply Kd.S_alloc | apply Kd.S_drewN | apply Kd.S_drew)); exact HQ30.out⟩, ⟨by (with_reducible repeat first | apply zbn | apply zbd | apply zba); refine blk_far ?_ (by have h_ := Kd.R_ne HL111_0.out BK101.out (by decide); intro e_; exact h_ (by rw [e_]; rfl)) _; exact ub BK101⟩, ⟨uB3 HB GB30.out GE101.out GE106.out⟩⟩
            ·
             rw [if_neg c29] at H; have c29b0 := DL c29; try simp only [c29b0]
             clear c29; have H' := Aside0.mk H; clear H; go_wp2; go_roundg k1
             case measure => have := HK1.out; omega
             case rel => exact ⟨(x5_1), (wrap64 (x6_1 + 1)), ue, H', ⟨by have := HK1.out; omega⟩, ⟨by (with_reducible repeat (first | apply Kd.S_alloc | apply Kd.S_drewN | apply Kd.S_drew)); exact HO_5.out⟩, ⟨ub BK101⟩, ⟨uB2 HB GE101.out GE106.out⟩⟩
           ·
            rw [if_neg c21] at H; exact absurd H (by simp)
          ·
           rw [if_neg c20] at H; exact absurd H (by simp)
        ·
         rw [if_neg c12] at H; exact absurd H (by simp)
       ·
        rw [if_neg c11] at H; exact absurd H (by simp)
      ·
       rw [if_neg c10] at H; exact absurd H (by simp)
     ·
      rw [if_neg c9] at H; exact absurd H (by simp)
    ·
     rw [if_neg c8] at H; exact absurd H (by simp)
   ·
    rw [if_neg c7] at H; have c7b0 := DL c7; clear c7; have H' := Aside0.mk H; clear H; obtain ⟨hcz32_0, hcz32_1, hfz32_0, hfz32_1⟩ := bc2 BK101; go_wp2; go_loopg [8] k1 (fun kq v8 w' => ∃ (x5_2 : List (List Int)) (x8_2 : Int), v8 = .int .i64 x8_2 ∧ Aside0 (spec_l10Over.l1 kq l1 x5_2 x8_2 a0_0 l0_1 = some r) ∧ Aside0 (kq ≤ k1) ∧ Aside0 (Kd.S (Kd.slice 3 (Kd.int .i64)) 26 w' w.heap.size (fun _ => True) v103 x5_2) ∧ Aside0 (w'.heap[gb101]? = some (.cells #[.int .i64 a0_0, (.slice A0_1 l0_1.length c0_1)] 25 (0, 0))) ∧ Aside0 (Below w.heap.size w w'))
    case atStart => exact ⟨(x5_1), (0), ue, H', ⟨Nat.le_refl _⟩, ⟨by (with_reducible repeat (first | apply Kd.S_alloc | apply Kd.S_drewN | apply Kd.S_drew)); exact HO_5.out⟩, ⟨ub BK101⟩, ⟨uB1 HB GE101.out⟩⟩
    case round =>
     clear H'; try clear c1
     try clear p1
     try clear q1
     try clear hx1
     try clear c2
     try clear p2
     try clear c3
     try clear p3
     try clear q3
     try clear hx3
     try clear hf3
     try clear p6
     try clear c7
     try clear c7b0
     try clear c8
     try clear c9
     try clear c10
     try clear p10
     try clear q10
     try clear hx10
     try clear c11
     try clear p11
     try clear q11
     try clear hx11
     try clear c12
     try clear c13
     try clear c13b0
     try clear c13b1
     try clear c20
     try clear c20b0
     try clear c21
     try clear c21b0
     try clear c24
     try clear c29
     try clear c29b0
     try clear c30
     try clear p30
     try clear q30
     try clear hx30
     try clear hf30
     try clear hcz22_0 hcz22_1
     try clear hcz25_0 hcz25_1 hcz25_2 hcz25_3 hcz25_4
     try clear hcz32_0 hcz32_1
     try clear hfz22_0 hfz22_1
     try clear hfz25_0 hfz25_1 hfz25_2 hfz25_3 hfz25_4
     try clear hfz32_0 hfz32_1
     try clear hx105_0
     try clear hx105_1
     try clear hx105_2
     try clear hx105_3
     try clear hx105_4
     try clear hx107_0
     try clear hx108_0
     try clear hx109_0
     try clear hx110_0
     try clear hx111_0
     try clear hx30_0
     try clear p105
     try clear p107
     try clear p108
     try clear p109
     try clear p110
     try clear p111
     try clear p30
     try clear q105
     try clear q107
     try clear q108
     try clear q109
     try clear q110
     try clear q111
     try clear q30
     obtain ⟨x5_2, x8_2, rfl, HA, HK2, HO_5, BK101, HB⟩ := hrel
     cases gk with
     | zero => exact absurd HA.out (by simp [spec_l10Over.l1])
     | succ k2 =>
      have H := HA.out; clear HA; simp only [spec_l10Over.l1] at H; by_cases c33 : x8_2 < a0_0
      ·
       rw [if_pos c33] at H; have c33b0 := dl c33; clear c33; by_cases c34 : 0 ≤ x8_2
       ·
        rw [if_pos c34] at H; have c34b0 := de c34; clear c34; by_cases c35 : x8_2 < (l1.length : Int)
        ·
         rw [if_pos c35] at H; have c35b0 := dl c35; clear c35; replace H := Option.bind_eq_some_iff.mp H; obtain ⟨⟨t116, t117⟩, A360, H⟩ := H; replace H : ((spec_l3All.f k2 t116 t117 x8_2).bind fun t120 => (spec_l10Over.l2 k2 l1 x5_2 x8_2 t120 0 a0_0 l0_1)) = some r := H; have A36 := Aside0.mk A360; clear A360; replace H := Option.bind_eq_some_iff.mp H; obtain ⟨t120, A370, H⟩ := H; replace H : (spec_l10Over.l2 k2 l1 x5_2 x8_2 t120 0 a0_0 l0_1) = some r := H; have A37 := Aside0.mk A370; clear A370; have H' := Aside0.mk H; clear H; obtain ⟨hcz38_0, hcz38_1, hfz38_0, hfz38_1⟩ := bc2 BK101; try go_wp2
         replace HO_5 := Aside0.mk (Kd.S_drew HO_5.out); replace BK101 := Aside0.mk (blk_drew BK101.out); replace HB := Aside0.mk (below_drew1 HB.out); have p115 : 0 ≤ (x8_2 : Int) := ua; have q115 : x8_2 < (l1.length : Int) := ua; obtain ⟨ad115, e115, hx115_0⟩ := Kd.at_int HR1.out x8_2 p115 q115; have hw115_0 := hx115_0
         cases e115
         replace hx115_0 := uc HB hx115_0; replace p115 := eq_true p115; replace q115 := eq_true q115; refine start_ (n := 10) (S := fun w' => w'.cell? ⟨gb101, 0, none⟩ = some (.int .i64 a0_0) ∧ w'.cell? ⟨gb101, 1, none⟩ = some (.slice A0_1 l0_1.length c0_1) ∧ w'.cell? (ad115.add (x8_2).toNat) = some (.int .i64 (rd l1 x8_2))) (ds := []) (zt 10 0) (by kernel_rfl) rfl (by kernel_rfl) (b2x BK101 (ud HB hw115_0)) (fun hHeld => ?_); refine with_tabW spec_l10Over.tab11 spec_l10Over.bits11 (fun HT_ HW_ => ?_); generalize wr.drew = w39 at HO_5 BK101 HB hx115_0 hHeld ⊢; refine qz HT_ 1 ?_; refine qz HT_ 2 ?_; refine qz HT_ 3 ?_; refine qz HT_ 4 ?_; refine qz HT_ 7 ?_; refine qt HT_ HW_ hHeld 0 ?_; refine qt HT_ HW_ hHeld 5 ?_; refine qo HT_ 6 (fun K hK => ?_); refine goes_ Try.func116 (by kernel_rfl) rfl #[.agg #[.int .i64 a0_0, .slice A0_1 l0_1.length c0_1], .slice (some ad115) l1.length c1, .int .i64 (rd l1 x8_2)] (by rfl) rfl rfl ul ?_; with_reducible refine (spec_l10In.calls k2 a0_0 _ _ l0_1 _ _ l1 (rd l1 x8_2) t116 t117 _ ?side1 ?side2 ?side3 ?side4 A36.out).mono ?_
         (case side1 => exact uC HR0_1 HB); (case side2 => exact HC0_1.out); (case side3 => exact uC HR1 HB); (case side4 => exact HC1.out); rintro e w40 ⟨v118, rfl, ho0, hb⟩; refine ⟨_, rfl, ?_⟩; replace HO_5 := Aside0.mk (Kd.S_below (by (with_reducible repeat (first | apply Kd.S_alloc | apply Kd.S_drewN | apply Kd.S_drew)); exact HO_5.out) hb); have HO119 := Aside0.mk (Kd.R_lower ho0 (below_size (uB1 HB GE101.out))); replace BK101 := bb BK101 hb; replace HB := Aside0.mk (below_step (uB1 HB GE101.out) hb); (try clear hb); (try clear hb2); (try clear hk); (try clear hi); (try clear ho0); obtain ⟨Ao41, co41, eo41⟩ := Kd.R_slice HO119.out; (first | subst eo41 | (injection eo41 with f1_ f2_ f3_; have f4_ := f1_.symm; have f5_ := f3_.symm; clear f1_ f2_ f3_; subst f4_; subst f5_)); refine hK.out _ _ (b2x BK101 (ud HB hw115_0)) (fun hHeld => ?_); clear hK K; refine nz ?_
         refine qo HT_ 8 (fun K hK => ?_); refine goes_ Try.func87 (by kernel_rfl) rfl #[.agg #[.int .i64 t116, .slice Ao41 t117.length co41], .int .i64 x8_2] (by rfl) rfl rfl ul ?_; with_reducible refine (spec_l3All.calls k2 t116 _ _ t117 x8_2 t120 _ ?side1 ?side2 A37.out).mono ?_
         (case side1 => exact uD (Kd.R_reads' HO119.out).2.2); (case side2 => exact (Kd.R_reads' HO119.out).2.1); rintro e w42 ⟨v121, rfl, ho0, hb⟩; refine ⟨_, rfl, ?_⟩; replace HO_5 := Aside0.mk (Kd.S_elder' (by (with_reducible repeat (first | apply Kd.S_alloc | apply Kd.S_drewN | apply Kd.S_drew)); exact HO_5.out) (Kd.R_base ho0) hb); replace HO119 := Aside0.mk (Kd.R_below (ur HO119) hb); have HO122 := Aside0.mk (Kd.R_lower ho0 (below_size (uB1 HB GE101.out))); replace BK101 := bb BK101 hb; replace HB := Aside0.mk (below_step (uB1 HB GE101.out) hb); (try clear hb); (try clear hb2); (try clear hk); (try clear hi); (try clear ho0); refine hK.out _ _ (b2x BK101 (ud HB hw115_0)) (fun hHeld => ?_); clear hK K; refine nz ?_
         refine qz HT_ 9 ?_; refine done_ (done_of HT_.out (by kernel_rfl)) ?_; try go_wp2
         go_loopg [10] k2 (fun kq v10 w' => ∃ (x5_3 : List (List Int)) (x9_3 : List Int) (x10_3 : Int), v10 = .int .i64 x10_3 ∧ Aside0 (spec_l10Over.l2 kq l1 x5_3 x8_2 x9_3 x10_3 a0_0 l0_1 = some r) ∧ Aside0 (kq ≤ k2) ∧ Aside0 (Kd.S (Kd.slice 3 (Kd.int .i64)) 26 w' w.heap.size (fun k_ => some k_ ≠ (v121 : Value).ownBlock) v103 x5_3) ∧ Aside0 (Kd.R (Kd.int .i64) 3 w' w.heap.size (fun _ => True) v121 x9_3) ∧ Aside0 (w'.heap[gb101]? = some (.cells #[.int .i64 a0_0, (.slice A0_1 l0_1.length c0_1)] 25 (0, 0))) ∧ Aside0 (Below w.heap.size w w'))
         case atStart => exact ⟨(x5_2), (t120), (0), ue, H', ⟨Nat.le_refl _⟩, ⟨by (with_reducible repeat (first | apply Kd.S_alloc | apply Kd.S_drewN | apply Kd.S_drew)); exact Kd.S_mono HO_5.out (fun _ hk => hk.2)⟩, ⟨ur HO122⟩, ⟨ub BK101⟩, ⟨uB1 HB GE101.out⟩⟩
         case round =>
          clear H'; try clear c1
          try clear p1
          try clear q1
          try clear hx1
          try clear c2
          try clear p2
          try clear c3
          try clear p3
          try clear q3
          try clear hx3
          try clear hf3
          try clear p6
          try clear c7
          try clear c7b0
          try clear c8
          try clear c9
          try clear c10
          try clear p10
          try clear q10
          try clear hx10
          try clear c11
          try clear p11
          try clear q11
          try clear hx11
          try clear c12
          try clear c13
          try clear c13b0
          try clear c13b1
          try clear c20
          try clear c20b0
          try clear c21
          try clear c21b0
          try clear c24
          try clear c29
          try clear c29b0
          try clear c30
          try clear p30
          try clear q30
          try clear hx30
          try clear hf30
          try clear c33
          try clear c33b0
          try clear c34
          try clear c34b0
          try clear c35
          try clear c35b0
          try clear hcz22_0 hcz22_1
          try clear hcz25_0 hcz25_1 hcz25_2 hcz25_3 hcz25_4
          try clear hcz32_0 hcz32_1
          try clear hcz38_0 hcz38_1
          try clear hfz22_0 hfz22_1
          try clear hfz25_0 hfz25_1 hfz25_2 hfz25_3 hfz25_4
          try clear hfz32_0 hfz32_1
          try clear hfz38_0 hfz38_1
          try clear hx105_0
          try clear hx105_1
          try clear hx105_2
          try clear hx105_3
          try clear hx105_4
          try clear hx107_0
          try clear hx108_0
          try clear hx109_0
          try clear hx110_0
          try clear hx111_0
          try clear hx115_0
          try clear hx30_0
          try clear p1
          try clear p10
          try clear p105
          try clear p107
          try clear p108
          try clear p109
          try clear p11
          try clear p110
          try clear p111
          try clear p115
          try clear p2
          try clear p3
          try clear p30
          try clear p6
          try clear q1
          try clear q10
          try clear q105
          try clear q107
          try clear q108
          try clear q109
          try clear q11
          try clear q110
          try clear q111
          try clear q115
          try clear q3
          try clear q30
          obtain ⟨x5_3, x9_3, x10_3, rfl, HA, HK3, HO_5, HO_9, BK101, HB⟩ := hrel
          cases gk with
          | zero => exact absurd HA.out (by simp [spec_l10Over.l2])
          | succ k3 =>
           have H := HA.out; clear HA; simp only [spec_l10Over.l2] at H; by_cases c43 : x10_3 < a0_0
           ·
            rw [if_pos c43] at H; have c43b0 := dl c43; clear c43; by_cases c44 : x8_2 = x10_3
            ·
             rw [if_pos c44] at H; obtain ⟨c44b0, c44b1⟩ := dq c44; clear c44; have H' := Aside0.mk H; clear H; obtain ⟨hcz45_0, hcz45_1, hfz45_0, hfz45_1⟩ := bc2 BK101; try go_wp2
             replace HO_5 := Aside0.mk (Kd.S_drew HO_5.out); replace HO_9 := Aside0.mk (Kd.R_drew HO_9.out); replace BK101 := Aside0.mk (blk_drew BK101.out); replace HB := Aside0.mk (below_drew1 HB.out); refine start_ (n := 40) (S := fun w' => True) (ds := []) (zt 40 0) (by kernel_rfl) rfl (by kernel_rfl) trivial (fun hHeld => ?_); refine with_tabW spec_l10Over.tab15 spec_l10Over.bits15 (fun HT_ HW_ => ?_); generalize wr.drew = w46 at HO_5 HO_9 BK101 HB hHeld ⊢; refine qz HT_ 0 ?_; refine qz HT_ 1 ?_; refine qz HT_ 2 ?_; refine qz HT_ 3 ?_; refine qn HT_ 4 ?_; refine qn HT_ 5 ?_; refine qn HT_ 6 ?_; refine qn HT_ 7 ?_; refine qn HT_ 8 ?_; refine qn HT_ 9 ?_; refine qn HT_ 10 ?_; refine qn HT_ 11 ?_; refine qn HT_ 12 ?_; refine qz HT_ 13 ?_; refine qz HT_ 14 ?_; refine qn HT_ 15 ?_; refine qn HT_ 16 ?_; refine qn HT_ 17 ?_; refine qn HT_ 18 ?_; refine qz HT_ 19 ?_; refine qz HT_ 20 ?_; refine qn HT_ 21 ?_; refine qn HT_ 22 ?_; refine qn HT_ 23 ?_; refine qn HT_ 24 ?_; refine qz HT_ 25 ?_; refine qz HT_ 26 ?_; refine qn HT_ 27 ?_; refine qn HT_ 28 ?_; refine qn HT_ 29 ?_; refine qn HT_ 30 ?_; refine qn HT_ 31 ?_; refine qn HT_ 32 ?_; refine qn HT_ 33 ?_; refine qn HT_ 34 ?_; refine qn HT_ 35 ?_; refine qn HT_ 36 ?_; refine qn HT_ 37 ?_; refine qn HT_ 38 ?_; refine qz HT_ 39 ?_; refine done_ (done_of HT_.out (by kernel_rfl)) ?_; try go_wp2
             go_roundg k3
             case measure => have := HK1.out; have := HK2.out; have := HK3.out; omega
             case rel => exact ⟨(x5_3), (x9_3), (wrap64 (x10_3 + 1)), ue, H', ⟨by have := HK1.out; have := HK2.out; have := HK3.out; omega⟩, ⟨by (with_reducible repeat (first | apply Kd.S_alloc | apply Kd.S_drewN | apply Kd.S_drew)); exact HO_5.out⟩, ⟨ur HO_9⟩, ⟨ub BK101⟩, ⟨uB1 HB GE101.out⟩⟩
            ·
             rw [if_neg c44] at H; obtain ⟨c44b0, c44b1⟩ := dQ c44; by_cases c47 : 0 ≤ x8_2
             ·
              rw [if_pos c47] at H; have c47b0 := de c47; clear c47; by_cases c48 : x8_2 < (l1.length : Int)
              ·
               rw [if_pos c48] at H; have c48b0 := dl c48; clear c48; by_cases c49 : 0 ≤ x10_3
               ·
                rw [if_pos c49] at H; have c49b0 := de c49; clear c49; by_cases c50 : x10_3 < (l1.length : Int)
                ·
                 rw [if_pos c50] at H; have c50b0 := dl c50; clear c50; by_cases c51 : (rd l1 x8_2) = (rd l1 x10_3)
                 ·
                  rw [if_pos c51] at H; obtain ⟨c51b0, c51b1⟩ := dq c51; clear c51; replace H := Option.bind_eq_some_iff.mp H; obtain ⟨t125, A520, H⟩ := H; replace H : (if t125 = true then ((spec_l10Edge.f k3 a0_0 l0_1 l1 x10_3).bind fun t126 => (if t126 = true then (if x10_3 < (x9_3.length : Int) then (if x8_2 < (x5_3.length : Int) then (if x10_3 < ((rd_L5 x5_3 x8_2).length : Int) then (if (rd x9_3 x10_3) < (rd (rd_L5 x5_3 x8_2) x10_3) then (spec_l10Over.l2 k3 l1 (x5_3.set (x8_2 : Int).toNat ((rd_L5 x5_3 x8_2).set (x10_3 : Int).toNat (rd x9_3 x10_3))) x8_2 x9_3 (wrap64 (x10_3 + 1)) a0_0 l0_1) else (spec_l10Over.l2 k3 l1 x5_3 x8_2 x9_3 (wrap64 (x10_3 + 1)) a0_0 l0_1)) else (none)) else (none)) else (none)) else (spec_l10Over.l2 k3 l1 x5_3 x8_2 x9_3 (wrap64 (x10_3 + 1)) a0_0 l0_1))) else (spec_l10Over.l2 k3 l1 x5_3 x8_2 x9_3 (wrap64 (x10_3 + 1)) a0_0 l0_1)) = some r := H; have A52 := Aside0.mk A520; clear A520; by_cases c53 : t125 = true
                  ·
                   subst c53; rw [if_pos rfl] at H; replace H := Option.bind_eq_some_iff.mp H; obtain ⟨t126, A540, H⟩ := H; replace H : (if t126 = true then (if x10_3 < (x9_3.length : Int) then (if x8_2 < (x5_3.length : Int) then (if x10_3 < ((rd_L5 x5_3 x8_2).length : Int) then (if (rd x9_3 x10_3) < (rd (rd_L5 x5_3 x8_2) x10_3) then (spec_l10Over.l2 k3 l1 (x5_3.set (x8_2 : Int).toNat ((rd_L5 x5_3 x8_2).set (x10_3 : Int).toNat (rd x9_3 x10_3))) x8_2 x9_3 (wrap64 (x10_3 + 1)) a0_0 l0_1) else (spec_l10Over.l2 k3 l1 x5_3 x8_2 x9_3 (wrap64 (x10_3 + 1)) a0_0 l0_1)) else (none)) else (none)) else (none)) else (spec_l10Over.l2 k3 l1 x5_3 x8_2 x9_3 (wrap64 (x10_3 + 1)) a0_0 l0_1)) = some r := H; have A54 := Aside0.mk A540; clear A540; by_cases c55 : t126 = true
                   ·
                    subst c55; rw [if_pos rfl] at H; by_cases c56 : x10_3 < (x9_3.length : Int)
                    ·
                     rw [if_pos c56] at H; have c56b0 := dl c56; clear c56; by_cases c57 : x8_2 < (x5_3.length : Int)
                     ·
                      rw [if_pos c57] at H; have c57b0 := dl c57; clear c57; by_cases c58 : x10_3 < ((rd_L5 x5_3 x8_2).length : Int)
                      ·
                       rw [if_pos c58] at H; have c58b0 := dl c58; clear c58; by_cases c59 : (rd x9_3 x10_3) < (rd (rd_L5 x5_3 x8_2) x10_3)
                       ·
                        rw [if_pos c59] at H; have c59b0 := dl c59; clear c59; obtain ⟨y132, hy132⟩ : ∃ y_ : List Int, y_ = ((rd_L5 x5_3 x8_2).set (x10_3 : Int).toNat (rd x9_3 x10_3)) := ⟨_, rfl⟩
                        replace H : (spec_l10Over.l2 k3 l1 (x5_3.set (x8_2 : Int).toNat y132) x8_2 x9_3 (wrap64 (x10_3 + 1)) a0_0 l0_1) = some r := by first | (rw [hy132]; with_reducible exact H) | (have H2_ := (Option.bind_some _ _).symm.trans H; rw [hy132]; with_reducible exact H2_) | (have H2_ := (Option.bind_some _ _).symm.trans H; with_reducible exact H2_) | with_reducible exact H | (rw [hy132]; exact H) | exact H
                        have Ny132 := Aside0.mk hy132; clear hy132; obtain ⟨y134, hy134⟩ : ∃ y_ : List (List Int), y_ = (x5_3.set (x8_2 : Int).toNat y132) := ⟨_, rfl⟩
                        replace H : (spec_l10Over.l2 k3 l1 y134 x8_2 x9_3 (wrap64 (x10_3 + 1)) a0_0 l0_1) = some r := by first | (rw [hy134]; with_reducible exact H) | (have H2_ := (Option.bind_some _ _).symm.trans H; rw [hy134]; with_reducible exact H2_) | (have H2_ := (Option.bind_some _ _).symm.trans H; with_reducible exact H2_) | with_reducible exact H | (rw [hy134]; exact H) | exact H
                        have Ny134 := Aside0.mk hy134; clear hy134; have H' := Aside0.mk H; clear H; obtain ⟨hcz61_0, hcz61_1, hfz61_0, hfz61_1⟩ := bc2 BK101; try go_wp2
                        replace HO_5 := Aside0.mk (Kd.S_drew HO_5.out); replace HO_9 := Aside0.mk (Kd.R_drew HO_9.out); replace BK101 := Aside0.mk (blk_drew BK101.out); replace HB := Aside0.mk (below_drew1 HB.out); have p123 : 0 ≤ (x8_2 : Int) := ua; have q123 : x8_2 < (l1.length : Int) := ua; obtain ⟨ad123, e123, hx123_0⟩ := Kd.at_int HR1.out x8_2 p123 q123; have hw123_0 := hx123_0; obtain rfl : ad115 = ad123 := (by injection e123)
                        replace hx123_0 := uc HB hx123_0; replace p123 := eq_true p123; replace q123 := eq_true q123; have p124 : 0 ≤ (x10_3 : Int) := ua; have q124 : x10_3 < (l1.length : Int) := ua; obtain ⟨ad124, e124, hx124_0⟩ := Kd.at_int HR1.out x10_3 p124 q124; have hw124_0 := hx124_0; obtain rfl : ad115 = ad124 := (by injection e124)
                        replace hx124_0 := uc HB hx124_0; replace p124 := eq_true p124; replace q124 := eq_true q124; obtain ⟨Ao9_, co9_, eo9_⟩ := Kd.R_slice HO_9.out; subst eo9_; obtain ⟨Ao5_, co5_, eo5_⟩ := Kd.S_slice HO_5.out; subst eo5_; have p127 : 0 ≤ (x10_3 : Int) := ua; have q127 : x10_3 < (x9_3.length : Int) := ua; obtain ⟨ad127, e127, hx127_0⟩ := Kd.at_int (Kd.R_reads' HO_9.out).2.2 x10_3 p127 q127
                        cases e127
                        replace p127 := eq_true p127; replace q127 := eq_true q127; have p128 : 0 ≤ (x8_2 : Int) := ua; have q128 : x8_2 < (x5_3.length : Int) := ua; obtain ⟨ad128, A128_0, c128_0, e128, hx128_0, hl128_0, hi128_0⟩ := at_L5 (Kd.S_reads' HO_5.out).2.2 x8_2 p128 q128
                        cases e128
                        obtain ⟨ce128, hce128, hMe128, hcc128⟩ := Kd.S_get HO_5.out [] x8_2 p128 (by first | exact q128 | exact ua | (have e_ := (Kd.S_reads' HO_5.out).1; omega)); obtain ⟨ve128_0, rfl, ge128_0⟩ := hMe128; have hv128_0 := hcc128 0 _ rfl; rw [Nat.add_zero, show ((Kd.slice 3 (Kd.int .i64))).sz = 1 from rfl, Nat.mul_one] at hv128_0; replace hv128_0 := Option.some.inj (hv128_0.symm.trans hx128_0); rw [hv128_0] at ge128_0; have HL128_0 := Aside0.mk (show Kd.R (Kd.int .i64) 3 _ _ _ _ (rd_L5 x5_3 x8_2) from ge128_0); clear hv128_0 ge128_0; have HX128_0 := Aside0.mk hx128_0; clear hcc128 hce128; have HR128_0 := Aside0.mk hi128_0; have HC128_0 := Aside0.mk hl128_0; clear hi128_0 hl128_0; replace p128 := eq_true p128; replace q128 := eq_true q128; have p129 : 0 ≤ (x10_3 : Int) := ua; have q129 : x10_3 < ((rd_L5 x5_3 x8_2).length : Int) := ua; obtain ⟨ad129, e129, hx129_0⟩ := Kd.at_int (by repeat (first | (with_reducible exact HR128_0.out) | (with_reducible refine Kd.C_alloc ?_ _) | (with_reducible refine Kd.C_drewN ?_ _) | (with_reducible refine Kd.C_drew ?_) | exact HR128_0.out)) x10_3 p129 q129
                        cases e129
                        replace p129 := eq_true p129; replace q129 := eq_true q129; refine start_ (n := 40) (S := fun w' => w'.cell? ⟨gb101, 0, none⟩ = some (.int .i64 a0_0) ∧ w'.cell? ⟨gb101, 1, none⟩ = some (.slice A0_1 l0_1.length c0_1) ∧ w'.cell? (ad115.add (x8_2).toNat) = some (.int .i64 (rd l1 x8_2)) ∧ w'.cell? (ad115.add (x10_3).toNat) = some (.int .i64 (rd l1 x10_3)) ∧ w'.cell? (ad127.add (x10_3).toNat) = some (.int .i64 (rd x9_3 x10_3)) ∧ w'.cell? (ad128.add (x8_2).toNat) = some (.slice (some ad129) (rd_L5 x5_3 x8_2).length c128_0) ∧ w'.cell? (ad129.add (x10_3).toNat) = some (.int .i64 (rd (rd_L5 x5_3 x8_2) x10_3))) (ds := []) (zt 40 0) (by kernel_rfl) rfl (by kernel_rfl) (b2x BK101 ⟨(ud HB hw123_0), (ud HB hw124_0), hx127_0, hx128_0, hx129_0⟩) (fun hHeld => ?_); refine with_tabW spec_l10Over.tab15 spec_l10Over.bits15 (fun HT_ HW_ => ?_); generalize wr.drew = w62 at HO_5 HO_9 BK101 HB HL128_0 HR128_0 HX128_0 hx123_0 hx124_0 hx127_0 hx128_0 hHeld ⊢; refine qz HT_ 0 ?_; refine qz HT_ 1 ?_; refine qz HT_ 2 ?_; refine qz HT_ 3 ?_; refine qz HT_ 4 ?_; refine qz HT_ 5 ?_; refine qz HT_ 6 ?_; refine qz HT_ 8 ?_; refine qz HT_ 9 ?_; refine qz HT_ 10 ?_; refine qt HT_ HW_ hHeld 7 ?_; refine qt HT_ HW_ hHeld 11 ?_; refine qz HT_ 12 ?_; refine qz HT_ 13 ?_; refine qz HT_ 14 ?_; refine qz HT_ 16 ?_; refine qz HT_ 17 ?_; refine qt HT_ HW_ hHeld 15 ?_; refine qo HT_ 18 (fun K hK => ?_); refine goes_ Try.func75 (by kernel_rfl) rfl #[.agg #[.int .i64 a0_0, .slice A0_1 l0_1.length c0_1], .slice (some ad115) l1.length c1, .int .i64 x8_2] (by rfl) rfl rfl ul ?_; with_reducible refine (spec_l10Edge.calls k3 a0_0 _ _ l0_1 _ _ l1 x8_2 true _ ?side1 ?side2 ?side3 ?side4 A52.out).mono ?_
                        (case side1 => exact uC HR0_1 HB); (case side2 => exact HC0_1.out); (case side3 => exact uC HR1 HB); (case side4 => exact HC1.out); rintro e w63 ⟨rfl, hb⟩; have HS4_ := (hb.cell (World.block_lt_of_cell? _ _ (hHeld.2.2.2.2.1))).trans (hHeld.2.2.2.2.1); have HS5_ := (hb.cell (World.block_lt_of_cell? _ _ (hHeld.2.2.2.2.2.1))).trans (hHeld.2.2.2.2.2.1); have HS6_ := (hb.cell (World.block_lt_of_cell? _ _ (hHeld.2.2.2.2.2.2))).trans (hHeld.2.2.2.2.2.2); refine ⟨_, rfl, ?_⟩; replace HO_5 := Aside0.mk (Kd.S_below (by (with_reducible repeat (first | apply Kd.S_alloc | apply Kd.S_drewN | apply Kd.S_drew)); exact HO_5.out) hb); replace HO_9 := Aside0.mk (Kd.R_below (ur HO_9) hb); replace BK101 := bb BK101 hb; replace HB := Aside0.mk (below_step (uB1 HB GE101.out) hb); (try clear hb); (try clear hb2); (try clear hk); (try clear hi); refine hK.out _ _ (b2x BK101 ⟨(ud HB hw123_0), (ud HB hw124_0), HS4_, HS5_, HS6_⟩) (fun hHeld => ?_); clear hK K; refine nz ?_
                        refine qz HT_ 19 ?_; refine qz HT_ 20 ?_; refine qz HT_ 22 ?_; refine qz HT_ 23 ?_; refine qt HT_ HW_ hHeld 21 ?_; refine qo HT_ 24 (fun K hK => ?_); refine goes_ Try.func75 (by kernel_rfl) rfl #[.agg #[.int .i64 a0_0, .slice A0_1 l0_1.length c0_1], .slice (some ad115) l1.length c1, .int .i64 x10_3] (by rfl) rfl rfl ul ?_; with_reducible refine (spec_l10Edge.calls k3 a0_0 _ _ l0_1 _ _ l1 x10_3 true _ ?side1 ?side2 ?side3 ?side4 A54.out).mono ?_
                        (case side1 => exact uC HR0_1 HB); (case side2 => exact HC0_1.out); (case side3 => exact uC HR1 HB); (case side4 => exact HC1.out); rintro e w64 ⟨rfl, hb⟩; have HS4_ := (hb.cell (World.block_lt_of_cell? _ _ (hHeld.2.2.2.2.1))).trans (hHeld.2.2.2.2.1); have HS5_ := (hb.cell (World.block_lt_of_cell? _ _ (hHeld.2.2.2.2.2.1))).trans (hHeld.2.2.2.2.2.1); have HS6_ := (hb.cell (World.block_lt_of_cell? _ _ (hHeld.2.2.2.2.2.2))).trans (hHeld.2.2.2.2.2.2); refine ⟨_, rfl, ?_⟩; replace HO_5 := Aside0.mk (Kd.S_below (by (with_reducible repeat (first | apply Kd.S_alloc | apply Kd.S_drewN | apply Kd.S_drew)); exact HO_5.out) hb); replace HO_9 := Aside0.mk (Kd.R_below (ur HO_9) hb); replace BK101 := bb BK101 hb; replace HB := Aside0.mk (below_step (uB1 HB GE101.out) hb); (try clear hb); (try clear hb2); (try clear hk); (try clear hi)
                        refine hK.out _ _ (b2x BK101 ⟨(ud HB hw123_0), (ud HB hw124_0), HS4_, HS5_, HS6_⟩) (fun hHeld => ?_); clear hK K; refine nz ?_
                        refine qz HT_ 25 ?_; refine qz HT_ 26 ?_; refine qz HT_ 27 ?_; refine qz HT_ 28 ?_; refine qz HT_ 29 ?_; refine qz HT_ 31 ?_; refine qz HT_ 32 ?_; refine qz HT_ 33 ?_; refine qz HT_ 35 ?_; refine qt HT_ HW_ hHeld 30 ?_; refine qt HT_ HW_ hHeld 34 ?_; refine qz HT_ 36 ?_; refine qt HT_ HW_ hHeld 37 ?_; refine qz HT_ 38 ?_; refine qz HT_ 39 ?_; refine done_ (done_of HT_.out (by kernel_rfl)) ?_; try go_wp2
                        replace HO_5 := Aside0.mk (Kd.S_drew HO_5.out); replace HO_9 := Aside0.mk (Kd.R_drew HO_9.out); replace HL128_0 := Aside0.mk (Kd.R_drew HL128_0.out); replace BK101 := Aside0.mk (blk_drew BK101.out); replace HR128_0 := Aside0.mk (Kd.C_drew HR128_0.out); replace HB := Aside0.mk (below_drew1 HB.out); have p130 : 0 ≤ (x8_2 : Int) := ua; have q130 : x8_2 < (x5_3.length : Int) := ua; obtain ⟨ad130, A130_0, c130_0, e130, hx130_0, hl130_0, hi130_0⟩ := at_L5 (Kd.S_reads' HO_5.out).2.2 x8_2 p130 q130; obtain rfl : ad128 = ad130 := (by injection e130)
                        obtain ⟨ce130, hce130, hMe130, hcc130⟩ := Kd.S_get HO_5.out [] x8_2 p130 (by first | exact q130 | exact ua | (have e_ := (Kd.S_reads' HO_5.out).1; omega)); obtain ⟨ve130_0, rfl, ge130_0⟩ := hMe130; have hv130_0 := hcc130 0 _ rfl; rw [Nat.add_zero, show ((Kd.slice 3 (Kd.int .i64))).sz = 1 from rfl, Nat.mul_one] at hv130_0; replace hv130_0 := Option.some.inj (hv130_0.symm.trans hx130_0); rw [hv130_0] at ge130_0; have HL130_0 := Aside0.mk (show Kd.R (Kd.int .i64) 3 _ _ _ _ (rd_L5 x5_3 x8_2) from ge130_0); clear hv130_0 ge130_0; have HX130_0 := Aside0.mk hx130_0; clear hcc130 hce130; have HR130_0 := Aside0.mk hi130_0; have HC130_0 := Aside0.mk hl130_0; clear hi130_0 hl130_0; replace p130 := eq_true p130; replace q130 := eq_true q130; have p131 : 0 ≤ (x10_3 : Int) := ua; have q131 : x10_3 < (x9_3.length : Int) := ua; obtain ⟨ad131, e131, hx131_0⟩ := Kd.at_int (Kd.R_reads' HO_9.out).2.2 x10_3 p131 q131; obtain rfl : ad127 = ad131 := (by injection e131)
                        replace p131 := eq_true p131; replace q131 := eq_true q131; have p60 : 0 ≤ (x10_3 : Int) := ua; have q60 : (x10_3 : Int) < (((rd_L5 x5_3 x8_2).length : Int) : Int) := ua; obtain ⟨go60, co60, eo60, gb60, gl60, cl60, HG60⟩ := Kd.R_form HL130_0.out (by omega); (first | cases eo60 | (injection eo60 with ea_ en_ ec_; (first | subst ea_ | (injection ea_ with ea_; subst ea_)); subst ec_; clear en_)); have GB60 := Aside0.mk gb60; have GG60 := Aside0.mk HG60; clear gb60 gl60 HG60; obtain ⟨hx60_0, hf60_0⟩ := Kd.R_celln 0 HL130_0.out (x10_3 : Int) p60 q60; replace p60 := eq_true p60; replace q60 := eq_true q60; have hq68 : (x8_2 : Int) < (x5_3.length : Int) := (by have h_ : (x8_2 : Int) < ((x5_3.length : Int) : Int) := ua; first | exact h_ | (have e_ := (Kd.S_reads' HO_5.out).1; omega) | simpa only [List.length_set, List.length_set] using h_)
                        obtain ⟨oki68, ce68, hcl68, hM68, hcc68, hok68, hbk68⟩ := Kd.S_borrow HO_5.out [] (x8_2 : Int) (ua) hq68; obtain ⟨ve68_0, rfl, ge68_0⟩ := hM68; have hv68 := hcc68 0 _ rfl; rw [Nat.add_zero, show ((Kd.slice 3 (Kd.int .i64))).sz = 1 from rfl, Nat.mul_one] at hv68; replace hv68 := Option.some.inj (hv68.symm.trans HX130_0.out); subst hv68; clear hcc68 hcl68; replace ge68_0 := (show Kd.R (Kd.int .i64) 3 _ _ _ _ (rd_L5 x5_3 x8_2) from ge68_0)
                        have HP68 := Kd.R_putg ge68_0 (x10_3 : Int) (rd x9_3 x10_3); rw [← Ny132.out] at HP68; have HS68 := hbk68 HP68.2 (fun k_ e_ => by injection e_ with e_; subst e_; exact ge68_0.1 _ rfl) (x' := y132) (Kd.M_row HP68.1); rw [← Ny134.out] at HS68; have HQ68 := Aside0.mk HS68; clear HP68 HS68 hbk68 hok68; refine start_ (n := 11) (S := fun w' => w'.cell? (ad128.add (x8_2).toNat) = some (.slice (some ⟨go60, 0, none⟩) (rd_L5 x5_3 x8_2).length c130_0) ∧ w'.cell? (ad127.add (x10_3).toNat) = some (.int .i64 (rd x9_3 x10_3))) (ds := [10]) (zt 11 0) (by kernel_rfl) rfl (by kernel_rfl) ⟨hx130_0, hx131_0⟩ (fun hHeld => ?_); refine with_tabW spec_l10Over.tab16 spec_l10Over.bits16 (fun HT_ HW_ => ?_); generalize w64.drew = w67 at HO_5 HO_9 HL128_0 BK101 HR128_0 HB GG60 HL130_0 HQ68 HR130_0 HX130_0 hf60_0 hx130_0 hx131_0 hx60_0 hHeld ⊢; refine qz HT_ 0 ?_; refine qz HT_ 1 ?_; refine qz HT_ 2 ?_; refine qz HT_ 4 ?_; refine qz HT_ 5 ?_; refine qz HT_ 6 ?_; refine qz HT_ 7 ?_; refine qt HT_ HW_ hHeld 3 ?_; refine qt HT_ HW_ hHeld 8 ?_; refine qz HT_ 9 ?_; refine last_ (i := 10) (N := none) (zt 11 2047) rfl rfl (one_of HT_.out (by kernel_rfl)) (by decide) (fun K hK => ?_); refine skip_ (w1 := ?_) (by rfl) rfl ?_ ?_; rotate_left
                        ·
                         go_simp; rfl
                        refine hK.out _ _ ?_; clear hK K; refine done_ (done_of HT_.out (by kernel_rfl)) ?_; try go_wp2
                        go_roundg k3
                        case measure => have := HK1.out; have := HK2.out; have := HK3.out; omega
                        case rel => exact ⟨(y134), (x9_3), (wrap64 (x10_3 + 1)), ue, H', ⟨by have := HK1.out; have := HK2.out; have := HK3.out; omega⟩, ⟨by (with_reducible repeat (first | apply Kd.S_alloc | apply Kd.S_drewN | apply Kd.S_drew)); exact HQ68.out⟩, ⟨by (with_reducible repeat (first | apply Kd.R_alloc | apply Kd.R_drewN | apply Kd.R_drew)); exact Kd.R_mono (Kd.R_far (p := ⟨go60, (x10_3 : Int).toNat, none⟩) (Kd.R_far1 HO_9.out rfl ((HL130_0.out.1 _ rfl).1)) (fun _ hk => hk.2) (.int .i64 (rd x9_3 x10_3))) (fun _ hk => trivial)⟩, ⟨by (with_reducible repeat first | apply zbn | apply zbd | apply zba); refine blk_far ?_ (by have h_ := Kd.R_ne HL130_0.out BK101.out (by decide); intro e_; exact h_ (by rw [e_]; rfl)) _; exact ub BK101⟩, ⟨uB2 HB GB60.out GE101.out⟩⟩
                       ·
                        rw [if_neg c59] at H; have c59b0 := DL c59; clear c59; have H' := Aside0.mk H; clear H; obtain ⟨hcz70_0, hcz70_1, hfz70_0, hfz70_1⟩ := bc2 BK101; try go_wp2
                        replace HO_5 := Aside0.mk (Kd.S_drew HO_5.out); replace HO_9 := Aside0.mk (Kd.R_drew HO_9.out); replace BK101 := Aside0.mk (blk_drew BK101.out); replace HB := Aside0.mk (below_drew1 HB.out); have p123 : 0 ≤ (x8_2 : Int) := ua; have q123 : x8_2 < (l1.length : Int) := ua; obtain ⟨ad123, e123, hx123_0⟩ := Kd.at_int HR1.out x8_2 p123 q123; have hw123_0 := hx123_0; obtain rfl : ad115 = ad123 := (by injection e123)
                        replace hx123_0 := uc HB hx123_0; replace p123 := eq_true p123; replace q123 := eq_true q123; have p124 : 0 ≤ (x10_3 : Int) := ua; have q124 : x10_3 < (l1.length : Int) := ua; obtain ⟨ad124, e124, hx124_0⟩ := Kd.at_int HR1.out x10_3 p124 q124; have hw124_0 := hx124_0; obtain rfl : ad115 = ad124 := (by injection e124)
                        replace hx124_0 := uc HB hx124_0; replace p124 := eq_true p124; replace q124 := eq_true q124; obtain ⟨Ao9_, co9_, eo9_⟩ := Kd.R_slice HO_9.out; subst eo9_; obtain ⟨Ao5_, co5_, eo5_⟩ := Kd.S_slice HO_5.out; subst eo5_; have p127 : 0 ≤ (x10_3 : Int) := ua; have q127 : x10_3 < (x9_3.length : Int) := ua; obtain ⟨ad127, e127, hx127_0⟩ := Kd.at_int (Kd.R_reads' HO_9.out).2.2 x10_3 p127 q127
                        cases e127
                        replace p127 := eq_true p127; replace q127 := eq_true q127; have p128 : 0 ≤ (x8_2 : Int) := ua; have q128 : x8_2 < (x5_3.length : Int) := ua; obtain ⟨ad128, A128_0, c128_0, e128, hx128_0, hl128_0, hi128_0⟩ := at_L5 (Kd.S_reads' HO_5.out).2.2 x8_2 p128 q128
                        cases e128
                        obtain ⟨ce128, hce128, hMe128, hcc128⟩ := Kd.S_get HO_5.out [] x8_2 p128 (by first | exact q128 | exact ua | (have e_ := (Kd.S_reads' HO_5.out).1; omega)); obtain ⟨ve128_0, rfl, ge128_0⟩ := hMe128; have hv128_0 := hcc128 0 _ rfl; rw [Nat.add_zero, show ((Kd.slice 3 (Kd.int .i64))).sz = 1 from rfl, Nat.mul_one] at hv128_0; replace hv128_0 := Option.some.inj (hv128_0.symm.trans hx128_0); rw [hv128_0] at ge128_0; have HL128_0 := Aside0.mk (show Kd.R (Kd.int .i64) 3 _ _ _ _ (rd_L5 x5_3 x8_2) from ge128_0); clear hv128_0 ge128_0; have HX128_0 := Aside0.mk hx128_0; clear hcc128 hce128; have HR128_0 := Aside0.mk hi128_0; have HC128_0 := Aside0.mk hl128_0; clear hi128_0 hl128_0; replace p128 := eq_true p128; replace q128 := eq_true q128; have p129 : 0 ≤ (x10_3 : Int) := ua; have q129 : x10_3 < ((rd_L5 x5_3 x8_2).length : Int) := ua; obtain ⟨ad129, e129, hx129_0⟩ := Kd.at_int (by repeat (first | (with_reducible exact HR128_0.out) | (with_reducible refine Kd.C_alloc ?_ _) | (with_reducible refine Kd.C_drewN ?_ _) | (with_reducible refine Kd.C_drew ?_) | exact HR128_0.out)) x10_3 p129 q129
                        cases e129
                        replace p129 := eq_true p129; replace q129 := eq_true q129; refine start_ (n := 40) (S := fun w' => w'.cell? ⟨gb101, 0, none⟩ = some (.int .i64 a0_0) ∧ w'.cell? ⟨gb101, 1, none⟩ = some (.slice A0_1 l0_1.length c0_1) ∧ w'.cell? (ad115.add (x8_2).toNat) = some (.int .i64 (rd l1 x8_2)) ∧ w'.cell? (ad115.add (x10_3).toNat) = some (.int .i64 (rd l1 x10_3)) ∧ w'.cell? (ad127.add (x10_3).toNat) = some (.int .i64 (rd x9_3 x10_3)) ∧ w'.cell? (ad128.add (x8_2).toNat) = some (.slice (some ad129) (rd_L5 x5_3 x8_2).length c128_0) ∧ w'.cell? (ad129.add (x10_3).toNat) = some (.int .i64 (rd (rd_L5 x5_3 x8_2) x10_3))) (ds := []) (zt 40 0) (by kernel_rfl) rfl (by kernel_rfl) (b2x BK101 ⟨(ud HB hw123_0), (ud HB hw124_0), hx127_0, hx128_0, hx129_0⟩) (fun hHeld => ?_); refine with_tabW spec_l10Over.tab15 spec_l10Over.bits15 (fun HT_ HW_ => ?_); generalize wr.drew = w71 at HO_5 HO_9 BK101 HB HL128_0 HR128_0 HX128_0 hx123_0 hx124_0 hx127_0 hx128_0 hHeld ⊢; refine qz HT_ 0 ?_; refine qz HT_ 1 ?_; refine qz HT_ 2 ?_; refine qz HT_ 3 ?_; refine qz HT_ 4 ?_; refine qz HT_ 5 ?_; refine qz HT_ 6 ?_; refine qz HT_ 8 ?_; refine qz HT_ 9 ?_; refine qz HT_ 10 ?_; refine qt HT_ HW_ hHeld 7 ?_; refine qt HT_ HW_ hHeld 11 ?_; refine qz HT_ 12 ?_; refine qz HT_ 13 ?_; refine qz HT_ 14 ?_; refine qz HT_ 16 ?_; refine qz HT_ 17 ?_; refine qt HT_ HW_ hHeld 15 ?_; refine qo HT_ 18 (fun K hK => ?_); refine goes_ Try.func75 (by kernel_rfl) rfl #[.agg #[.int .i64 a0_0, .slice A0_1 l0_1.length c0_1], .slice (some ad115) l1.length c1, .int .i64 x8_2] (by rfl) rfl rfl ul ?_; with_reducible refine (spec_l10Edge.calls k3 a0_0 _ _ l0_1 _ _ l1 x8_2 true _ ?side1 ?side2 ?side3 ?side4 A52.out).mono ?_
                        (case side1 => exact uC HR0_1 HB); (case side2 => exact HC0_1.out); (case side3 => exact uC HR1 HB); (case side4 => exact HC1.out); rintro e w72 ⟨rfl, hb⟩; have HS4_ := (hb.cell (World.block_lt_of_cell? _ _ (hHeld.2.2.2.2.1))).trans (hHeld.2.2.2.2.1); have HS5_ := (hb.cell (World.block_lt_of_cell? _ _ (hHeld.2.2.2.2.2.1))).trans (hHeld.2.2.2.2.2.1); have HS6_ := (hb.cell (World.block_lt_of_cell? _ _ (hHeld.2.2.2.2.2.2))).trans (hHeld.2.2.2.2.2.2); refine ⟨_, rfl, ?_⟩; replace HO_5 := Aside0.mk (Kd.S_below (by (with_reducible repeat (first | apply Kd.S_alloc | apply Kd.S_drewN | apply Kd.S_drew)); exact HO_5.out) hb); replace HO_9 := Aside0.mk (Kd.R_below (ur HO_9) hb); replace BK101 := bb BK101 hb; replace HB := Aside0.mk (below_step (uB1 HB GE101.out) hb); (try clear hb); (try clear hb2); (try clear hk); (try clear hi); refine hK.out _ _ (b2x BK101 ⟨(ud HB hw123_0), (ud HB hw124_0), HS4_, HS5_, HS6_⟩) (fun hHeld => ?_); clear hK K; refine nz ?_
                        refine qz HT_ 19 ?_; refine qz HT_ 20 ?_; refine qz HT_ 22 ?_; refine qz HT_ 23 ?_; refine qt HT_ HW_ hHeld 21 ?_; refine qo HT_ 24 (fun K hK => ?_); refine goes_ Try.func75 (by kernel_rfl) rfl #[.agg #[.int .i64 a0_0, .slice A0_1 l0_1.length c0_1], .slice (some ad115) l1.length c1, .int .i64 x10_3] (by rfl) rfl rfl ul ?_; with_reducible refine (spec_l10Edge.calls k3 a0_0 _ _ l0_1 _ _ l1 x10_3 true _ ?side1 ?side2 ?side3 ?side4 A54.out).mono ?_
                        (case side1 => exact uC HR0_1 HB); (case side2 => exact HC0_1.out); (case side3 => exact uC HR1 HB); (case side4 => exact HC1.out); rintro e w73 ⟨rfl, hb⟩; have HS4_ := (hb.cell (World.block_lt_of_cell? _ _ (hHeld.2.2.2.2.1))).trans (hHeld.2.2.2.2.1); have HS5_ := (hb.cell (World.block_lt_of_cell? _ _ (hHeld.2.2.2.2.2.1))).trans (hHeld.2.2.2.2.2.1); have HS6_ := (hb.cell (World.block_lt_of_cell? _ _ (hHeld.2.2.2.2.2.2))).trans (hHeld.2.2.2.2.2.2); refine ⟨_, rfl, ?_⟩; replace HO_5 := Aside0.mk (Kd.S_below (by (with_reducible repeat (first | apply Kd.S_alloc | apply Kd.S_drewN | apply Kd.S_drew)); exact HO_5.out) hb); replace HO_9 := Aside0.mk (Kd.R_below (ur HO_9) hb); replace BK101 := bb BK101 hb; replace HB := Aside0.mk (below_step (uB1 HB GE101.out) hb); (try clear hb); (try clear hb2); (try clear hk); (try clear hi)
                        refine hK.out _ _ (b2x BK101 ⟨(ud HB hw123_0), (ud HB hw124_0), HS4_, HS5_, HS6_⟩) (fun hHeld => ?_); clear hK K; refine nz ?_
                        refine qz HT_ 25 ?_; refine qz HT_ 26 ?_; refine qz HT_ 27 ?_; refine qz HT_ 28 ?_; refine qz HT_ 29 ?_; refine qz HT_ 31 ?_; refine qz HT_ 32 ?_; refine qz HT_ 33 ?_; refine qz HT_ 35 ?_; refine qt HT_ HW_ hHeld 30 ?_; refine qt HT_ HW_ hHeld 34 ?_; refine qz HT_ 36 ?_; refine qt HT_ HW_ hHeld 37 ?_; refine qz HT_ 38 ?_; refine qz HT_ 39 ?_; refine done_ (done_of HT_.out (by kernel_rfl)) ?_; try go_wp2
                        go_roundg k3
                        case measure => have := HK1.out; have := HK2.out; have := HK3.out; omega
                        case rel => exact ⟨(x5_3), (x9_3), (wrap64 (x10_3 + 1)), ue, H', ⟨by have := HK1.out; have := HK2.out; have := HK3.out; omega⟩, ⟨by (with_reducible repeat (first | apply Kd.S_alloc | apply Kd.S_drewN | apply Kd.S_drew)); exact HO_5.out⟩, ⟨ur HO_9⟩, ⟨ub BK101⟩, ⟨uB1 HB GE101.out⟩⟩
                      ·
                       rw [if_neg c58] at H; exact absurd H (by simp)
                     ·
                      rw [if_neg c57] at H; exact absurd H (by simp)
                    ·
                     rw [if_neg c56] at H; exact absurd H (by simp)
                   ·
                    replace c55 := Bool.eq_false_iff.mpr c55; subst c55; rw [if_neg (show ¬ (false = true) by decide)] at H; have H' := Aside0.mk H; clear H; obtain ⟨hcz76_0, hcz76_1, hfz76_0, hfz76_1⟩ := bc2 BK101; try go_wp2
                    replace HO_5 := Aside0.mk (Kd.S_drew HO_5.out); replace HO_9 := Aside0.mk (Kd.R_drew HO_9.out); replace BK101 := Aside0.mk (blk_drew BK101.out); replace HB := Aside0.mk (below_drew1 HB.out); have p123 : 0 ≤ (x8_2 : Int) := ua; have q123 : x8_2 < (l1.length : Int) := ua; obtain ⟨ad123, e123, hx123_0⟩ := Kd.at_int HR1.out x8_2 p123 q123; have hw123_0 := hx123_0; obtain rfl : ad115 = ad123 := (by injection e123)
                    replace hx123_0 := uc HB hx123_0; replace p123 := eq_true p123; replace q123 := eq_true q123; have p124 : 0 ≤ (x10_3 : Int) := ua; have q124 : x10_3 < (l1.length : Int) := ua; obtain ⟨ad124, e124, hx124_0⟩ := Kd.at_int HR1.out x10_3 p124 q124; have hw124_0 := hx124_0; obtain rfl : ad115 = ad124 := (by injection e124)
                    replace hx124_0 := uc HB hx124_0; replace p124 := eq_true p124; replace q124 := eq_true q124; refine start_ (n := 40) (S := fun w' => w'.cell? ⟨gb101, 0, none⟩ = some (.int .i64 a0_0) ∧ w'.cell? ⟨gb101, 1, none⟩ = some (.slice A0_1 l0_1.length c0_1) ∧ w'.cell? (ad115.add (x8_2).toNat) = some (.int .i64 (rd l1 x8_2)) ∧ w'.cell? (ad115.add (x10_3).toNat) = some (.int .i64 (rd l1 x10_3))) (ds := []) (zt 40 0) (by kernel_rfl) rfl (by kernel_rfl) (b2x BK101 ⟨(ud HB hw123_0), (ud HB hw124_0)⟩) (fun hHeld => ?_); refine with_tabW spec_l10Over.tab15 spec_l10Over.bits15 (fun HT_ HW_ => ?_); generalize wr.drew = w77 at HO_5 HO_9 BK101 HB hx123_0 hx124_0 hHeld ⊢; refine qz HT_ 0 ?_; refine qz HT_ 1 ?_; refine qz HT_ 2 ?_; refine qz HT_ 3 ?_; refine qz HT_ 4 ?_; refine qz HT_ 5 ?_; refine qz HT_ 6 ?_; refine qz HT_ 8 ?_; refine qz HT_ 9 ?_; refine qz HT_ 10 ?_; refine qt HT_ HW_ hHeld 7 ?_; refine qt HT_ HW_ hHeld 11 ?_; refine qz HT_ 12 ?_; refine qz HT_ 13 ?_; refine qz HT_ 14 ?_; refine qz HT_ 16 ?_; refine qz HT_ 17 ?_; refine qt HT_ HW_ hHeld 15 ?_; refine qo HT_ 18 (fun K hK => ?_); refine goes_ Try.func75 (by kernel_rfl) rfl #[.agg #[.int .i64 a0_0, .slice A0_1 l0_1.length c0_1], .slice (some ad115) l1.length c1, .int .i64 x8_2] (by rfl) rfl rfl ul ?_; with_reducible refine (spec_l10Edge.calls k3 a0_0 _ _ l0_1 _ _ l1 x8_2 true _ ?side1 ?side2 ?side3 ?side4 A52.out).mono ?_
                    (case side1 => exact uC HR0_1 HB); (case side2 => exact HC0_1.out); (case side3 => exact uC HR1 HB); (case side4 => exact HC1.out); rintro e w78 ⟨rfl, hb⟩; refine ⟨_, rfl, ?_⟩; replace HO_5 := Aside0.mk (Kd.S_below (by (with_reducible repeat (first | apply Kd.S_alloc | apply Kd.S_drewN | apply Kd.S_drew)); exact HO_5.out) hb); replace HO_9 := Aside0.mk (Kd.R_below (ur HO_9) hb); replace BK101 := bb BK101 hb; replace HB := Aside0.mk (below_step (uB1 HB GE101.out) hb); (try clear hb); (try clear hb2); (try clear hk); (try clear hi); refine hK.out _ _ (b2x BK101 ⟨(ud HB hw123_0), (ud HB hw124_0)⟩) (fun hHeld => ?_); clear hK K; refine nz ?_
                    refine qz HT_ 19 ?_; refine qz HT_ 20 ?_; refine qz HT_ 22 ?_; refine qz HT_ 23 ?_; refine qt HT_ HW_ hHeld 21 ?_; refine qo HT_ 24 (fun K hK => ?_); refine goes_ Try.func75 (by kernel_rfl) rfl #[.agg #[.int .i64 a0_0, .slice A0_1 l0_1.length c0_1], .slice (some ad115) l1.length c1, .int .i64 x10_3] (by rfl) rfl rfl ul ?_; with_reducible refine (spec_l10Edge.calls k3 a0_0 _ _ l0_1 _ _ l1 x10_3 false _ ?side1 ?side2 ?side3 ?side4 A54.out).mono ?_
                    (case side1 => exact uC HR0_1 HB); (case side2 => exact HC0_1.out); (case side3 => exact uC HR1 HB); (case side4 => exact HC1.out); rintro e w79 ⟨rfl, hb⟩; refine ⟨_, rfl, ?_⟩; replace HO_5 := Aside0.mk (Kd.S_below (by (with_reducible repeat (first | apply Kd.S_alloc | apply Kd.S_drewN | apply Kd.S_drew)); exact HO_5.out) hb); replace HO_9 := Aside0.mk (Kd.R_below (ur HO_9) hb); replace BK101 := bb BK101 hb; replace HB := Aside0.mk (below_step (uB1 HB GE101.out) hb); (try clear hb); (try clear hb2); (try clear hk); (try clear hi); refine hK.out _ _ (b2x BK101 ⟨(ud HB hw123_0), (ud HB hw124_0)⟩) (fun hHeld => ?_); clear hK K; refine nz ?_
                    refine qz HT_ 25 ?_; refine qz HT_ 26 ?_; refine qn HT_ 27 ?_; refine qn HT_ 28 ?_; refine qn HT_ 29 ?_; refine qn HT_ 30 ?_; refine qn HT_ 31 ?_; refine qn HT_ 32 ?_; refine qn HT_ 33 ?_; refine qn HT_ 34 ?_; refine qn HT_ 35 ?_; refine qn HT_ 36 ?_; refine qn HT_ 37 ?_; refine qn HT_ 38 ?_; refine qz HT_ 39 ?_; refine done_ (done_of HT_.out (by kernel_rfl)) ?_; try go_wp2
                    go_roundg k3
                    case measure => have := HK1.out; have := HK2.out; have := HK3.out; omega
                    case rel => exact ⟨(x5_3), (x9_3), (wrap64 (x10_3 + 1)), ue, H', ⟨by have := HK1.out; have := HK2.out; have := HK3.out; omega⟩, ⟨by (with_reducible repeat (first | apply Kd.S_alloc | apply Kd.S_drewN | apply Kd.S_drew)); exact HO_5.out⟩, ⟨ur HO_9⟩, ⟨ub BK101⟩, ⟨uB1 HB GE101.out⟩⟩
                  ·
                   replace c53 := Bool.eq_false_iff.mpr c53; subst c53; rw [if_neg (show ¬ (false = true) by decide)] at H; have H' := Aside0.mk H; clear H; obtain ⟨hcz80_0, hcz80_1, hfz80_0, hfz80_1⟩ := bc2 BK101; try go_wp2
                   replace HO_5 := Aside0.mk (Kd.S_drew HO_5.out); replace HO_9 := Aside0.mk (Kd.R_drew HO_9.out); replace BK101 := Aside0.mk (blk_drew BK101.out); replace HB := Aside0.mk (below_drew1 HB.out); have p123 : 0 ≤ (x8_2 : Int) := ua; have q123 : x8_2 < (l1.length : Int) := ua; obtain ⟨ad123, e123, hx123_0⟩ := Kd.at_int HR1.out x8_2 p123 q123; have hw123_0 := hx123_0; obtain rfl : ad115 = ad123 := (by injection e123)
                   replace hx123_0 := uc HB hx123_0; replace p123 := eq_true p123; replace q123 := eq_true q123; have p124 : 0 ≤ (x10_3 : Int) := ua; have q124 : x10_3 < (l1.length : Int) := ua; obtain ⟨ad124, e124, hx124_0⟩ := Kd.at_int HR1.out x10_3 p124 q124; have hw124_0 := hx124_0; obtain rfl : ad115 = ad124 := (by injection e124)
                   replace hx124_0 := uc HB hx124_0; replace p124 := eq_true p124; replace q124 := eq_true q124; refine start_ (n := 40) (S := fun w' => w'.cell? ⟨gb101, 0, none⟩ = some (.int .i64 a0_0) ∧ w'.cell? ⟨gb101, 1, none⟩ = some (.slice A0_1 l0_1.length c0_1) ∧ w'.cell? (ad115.add (x8_2).toNat) = some (.int .i64 (rd l1 x8_2)) ∧ w'.cell? (ad115.add (x10_3).toNat) = some (.int .i64 (rd l1 x10_3))) (ds := []) (zt 40 0) (by kernel_rfl) rfl (by kernel_rfl) (b2x BK101 ⟨(ud HB hw123_0), (ud HB hw124_0)⟩) (fun hHeld => ?_); refine with_tabW spec_l10Over.tab15 spec_l10Over.bits15 (fun HT_ HW_ => ?_); generalize wr.drew = w81 at HO_5 HO_9 BK101 HB hx123_0 hx124_0 hHeld ⊢; refine qz HT_ 0 ?_; refine qz HT_ 1 ?_; refine qz HT_ 2 ?_; refine qz HT_ 3 ?_; refine qz HT_ 4 ?_; refine qz HT_ 5 ?_; refine qz HT_ 6 ?_; refine qz HT_ 8 ?_; refine qz HT_ 9 ?_; refine qz HT_ 10 ?_; refine qt HT_ HW_ hHeld 7 ?_; refine qt HT_ HW_ hHeld 11 ?_; refine qz HT_ 12 ?_; refine qz HT_ 13 ?_; refine qz HT_ 14 ?_; refine qz HT_ 16 ?_; refine qz HT_ 17 ?_; refine qt HT_ HW_ hHeld 15 ?_; refine qo HT_ 18 (fun K hK => ?_); refine goes_ Try.func75 (by kernel_rfl) rfl #[.agg #[.int .i64 a0_0, .slice A0_1 l0_1.length c0_1], .slice (some ad115) l1.length c1, .int .i64 x8_2] (by rfl) rfl rfl ul ?_; with_reducible refine (spec_l10Edge.calls k3 a0_0 _ _ l0_1 _ _ l1 x8_2 false _ ?side1 ?side2 ?side3 ?side4 A52.out).mono ?_
                   (case side1 => exact uC HR0_1 HB); (case side2 => exact HC0_1.out); (case side3 => exact uC HR1 HB); (case side4 => exact HC1.out); rintro e w82 ⟨rfl, hb⟩; refine ⟨_, rfl, ?_⟩; replace HO_5 := Aside0.mk (Kd.S_below (by (with_reducible repeat (first | apply Kd.S_alloc | apply Kd.S_drewN | apply Kd.S_drew)); exact HO_5.out) hb); replace HO_9 := Aside0.mk (Kd.R_below (ur HO_9) hb); replace BK101 := bb BK101 hb; replace HB := Aside0.mk (below_step (uB1 HB GE101.out) hb); (try clear hb); (try clear hb2); (try clear hk); (try clear hi); refine hK.out _ _ (b2x BK101 ⟨(ud HB hw123_0), (ud HB hw124_0)⟩) (fun hHeld => ?_); clear hK K; refine nz ?_
                   refine qz HT_ 19 ?_; refine qz HT_ 20 ?_; refine qn HT_ 21 ?_; refine qn HT_ 22 ?_; refine qn HT_ 23 ?_; refine qn HT_ 24 ?_; refine qz HT_ 25 ?_; refine qz HT_ 26 ?_; refine qn HT_ 27 ?_; refine qn HT_ 28 ?_; refine qn HT_ 29 ?_; refine qn HT_ 30 ?_; refine qn HT_ 31 ?_; refine qn HT_ 32 ?_; refine qn HT_ 33 ?_; refine qn HT_ 34 ?_; refine qn HT_ 35 ?_; refine qn HT_ 36 ?_; refine qn HT_ 37 ?_; refine qn HT_ 38 ?_; refine qz HT_ 39 ?_; refine done_ (done_of HT_.out (by kernel_rfl)) ?_; try go_wp2
                   go_roundg k3
                   case measure => have := HK1.out; have := HK2.out; have := HK3.out; omega
                   case rel => exact ⟨(x5_3), (x9_3), (wrap64 (x10_3 + 1)), ue, H', ⟨by have := HK1.out; have := HK2.out; have := HK3.out; omega⟩, ⟨by (with_reducible repeat (first | apply Kd.S_alloc | apply Kd.S_drewN | apply Kd.S_drew)); exact HO_5.out⟩, ⟨ur HO_9⟩, ⟨ub BK101⟩, ⟨uB1 HB GE101.out⟩⟩
                 ·
                  rw [if_neg c51] at H; obtain ⟨c51b0, c51b1⟩ := dQ c51; have H' := Aside0.mk H; clear H; obtain ⟨hcz83_0, hcz83_1, hfz83_0, hfz83_1⟩ := bc2 BK101; try go_wp2
                  replace HO_5 := Aside0.mk (Kd.S_drew HO_5.out); replace HO_9 := Aside0.mk (Kd.R_drew HO_9.out); replace BK101 := Aside0.mk (blk_drew BK101.out); replace HB := Aside0.mk (below_drew1 HB.out); have p123 : 0 ≤ (x8_2 : Int) := ua; have q123 : x8_2 < (l1.length : Int) := ua; obtain ⟨ad123, e123, hx123_0⟩ := Kd.at_int HR1.out x8_2 p123 q123; have hw123_0 := hx123_0; obtain rfl : ad115 = ad123 := (by injection e123)
                  replace hx123_0 := uc HB hx123_0; replace p123 := eq_true p123; replace q123 := eq_true q123; have p124 : 0 ≤ (x10_3 : Int) := ua; have q124 : x10_3 < (l1.length : Int) := ua; obtain ⟨ad124, e124, hx124_0⟩ := Kd.at_int HR1.out x10_3 p124 q124; have hw124_0 := hx124_0; obtain rfl : ad115 = ad124 := (by injection e124)
                  replace hx124_0 := uc HB hx124_0; replace p124 := eq_true p124; replace q124 := eq_true q124; refine start_ (n := 40) (S := fun w' => w'.cell? (ad115.add (x8_2).toNat) = some (.int .i64 (rd l1 x8_2)) ∧ w'.cell? (ad115.add (x10_3).toNat) = some (.int .i64 (rd l1 x10_3))) (ds := []) (zt 40 0) (by kernel_rfl) rfl (by kernel_rfl) ⟨(ud HB hw123_0), (ud HB hw124_0)⟩ (fun hHeld => ?_); refine with_tabW spec_l10Over.tab15 spec_l10Over.bits15 (fun HT_ HW_ => ?_); generalize wr.drew = w84 at HO_5 HO_9 BK101 HB hx123_0 hx124_0 hHeld ⊢; refine qz HT_ 0 ?_; refine qz HT_ 1 ?_; refine qz HT_ 2 ?_; refine qz HT_ 3 ?_; refine qz HT_ 4 ?_; refine qz HT_ 5 ?_; refine qz HT_ 6 ?_; refine qz HT_ 8 ?_; refine qz HT_ 9 ?_; refine qz HT_ 10 ?_; refine qt HT_ HW_ hHeld 7 ?_; refine qt HT_ HW_ hHeld 11 ?_; refine qz HT_ 12 ?_; refine qz HT_ 13 ?_; refine qz HT_ 14 ?_; refine qn HT_ 15 ?_; refine qn HT_ 16 ?_; refine qn HT_ 17 ?_; refine qn HT_ 18 ?_; refine qz HT_ 19 ?_; refine qz HT_ 20 ?_; refine qn HT_ 21 ?_; refine qn HT_ 22 ?_; refine qn HT_ 23 ?_; refine qn HT_ 24 ?_; refine qz HT_ 25 ?_; refine qz HT_ 26 ?_; refine qn HT_ 27 ?_; refine qn HT_ 28 ?_; refine qn HT_ 29 ?_; refine qn HT_ 30 ?_; refine qn HT_ 31 ?_; refine qn HT_ 32 ?_; refine qn HT_ 33 ?_; refine qn HT_ 34 ?_; refine qn HT_ 35 ?_; refine qn HT_ 36 ?_; refine qn HT_ 37 ?_; refine qn HT_ 38 ?_; refine qz HT_ 39 ?_; refine done_ (done_of HT_.out (by kernel_rfl)) ?_; try go_wp2
                  go_roundg k3
                  case measure => have := HK1.out; have := HK2.out; have := HK3.out; omega
                  case rel => exact ⟨(x5_3), (x9_3), (wrap64 (x10_3 + 1)), ue, H', ⟨by have := HK1.out; have := HK2.out; have := HK3.out; omega⟩, ⟨by (with_reducible repeat (first | apply Kd.S_alloc | apply Kd.S_drewN | apply Kd.S_drew)); exact HO_5.out⟩, ⟨ur HO_9⟩, ⟨ub BK101⟩, ⟨uB1 HB GE101.out⟩⟩
                ·
                 rw [if_neg c50] at H; exact absurd H (by simp)
               ·
                rw [if_neg c49] at H; exact absurd H (by simp)
              ·
               rw [if_neg c48] at H; exact absurd H (by simp)
             ·
              rw [if_neg c47] at H; exact absurd H (by simp)
           ·
            rw [if_neg c43] at H; have c43b0 := DL c43; clear c43; have H' := Aside0.mk H; clear H; obtain ⟨hcz85_0, hcz85_1, hfz85_0, hfz85_1⟩ := bc2 BK101; go_wp2; go_roundg k3
            case measure => have := HK1.out; have := HK2.out; have := HK3.out; omega
            case rel => exact ⟨(x5_3), (wrap64 (x8_2 + 1)), ue, H', ⟨by have := HK1.out; have := HK2.out; have := HK3.out; omega⟩, ⟨by (with_reducible repeat (first | apply Kd.S_alloc | apply Kd.S_drewN | apply Kd.S_drew)); exact Kd.S_mono HO_5.out (fun _ hk => trivial)⟩, ⟨ub BK101⟩, ⟨uB1 HB GE101.out⟩⟩
        ·
         rw [if_neg c35] at H; exact absurd H (by simp)
       ·
        rw [if_neg c34] at H; exact absurd H (by simp)
      ·
       rw [if_neg c33] at H; have c33b0 := DL c33; clear c33; obtain rfl := Option.some.inj H; obtain ⟨hcz86_0, hcz86_1, hfz86_0, hfz86_1⟩ := bc2 BK101; go_wp2; go_ret; exact ⟨_, by first | rfl | (simp [errW_none, errW_some] <;> rfl) | (simp [*, errW_none, errW_some] <;> rfl), by (with_reducible repeat (first | apply Kd.S_alloc | apply Kd.S_drewN | apply Kd.S_drew)); exact HO_5.out, uB1 HB GE101.out⟩

end Go.Proofs.Ytblpdfgplifccaa.P
