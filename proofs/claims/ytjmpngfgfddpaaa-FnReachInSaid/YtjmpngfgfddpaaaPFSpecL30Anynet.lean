-- written for this claim by a program (wip/gen/myprint.py over the print tool). Not trusted: Lean checks it.
import Derived.Test.YtjmpngfgfddpaaaPx0
import Derived.Test.YtjmpngfgfddpaaaHUp
import Derived.Test.YtjmpngfgfddpaaaPFSpecL30Open
import Derived.Test.YtjmpngfgfddpaaaPFSpecL30RdPick
import Derived.Test.YtjmpngfgfddpaaaPFSpecL30RdOne
import Derived.Test.YtjmpngfgfddpaaaPFSpecL30Net
namespace Go.Proofs.Ytjmpngfgfddpaaa.P
open Go.RowKit Go.Proofs.YtjmpngfgfddpaaaV.PrintWords Go.Proofs.YtjmpngfgfddpaaaV.PrintLast
set_option linter.unusedVariables false
set_option linter.unusedSimpArgs false

/-! ### spec_l30AnyNet: function 98 -/
def spec_l30AnyNet.f (k : Nat) (s0_0 : List Int) (s0_1 : Int) : Option (Int × (List (S33)) × Int) := (spec_l30Net.f k s0_0 s0_1).bind fun bt102 => (if (bt102.2.1.length : Int) > 0 then ((spec_l30Rd_pick.f k s0_0 bt102.2.2 (bt102.2.1.length : Int)).bind fun bt108 => ((spec_l30Rd_pick.f k s0_0 bt108.2 16).bind fun bt110 => (if bt110.1 = 0 then (if 0 ≤ bt108.1 then (if bt108.1 < (bt102.2.1.length : Int) then ((spec_l30Rd_one.f k s0_0 bt110.2 (([(-1), 8, (rd_T33 bt102.2.1 bt108.1).f0] : List Int))).bind fun bt116 => (some (bt102.1, (bt102.2.1.set (bt108.1 : Int).toNat (⟨(rd_T33 bt102.2.1 bt108.1).f0, bt116.1, (rd_T33 bt102.2.1 bt108.1).f2, (rd_T33 bt102.2.1 bt108.1).f3, (rd_T33 bt102.2.1 bt108.1).f4⟩ : S33)), bt116.2))) else (none)) else (none)) else (if bt110.1 = 1 then ((spec_l30Rd_one.f k s0_0 bt110.2 (([(-1), 100] : List Int))).bind fun bt122 => (if 0 ≤ bt108.1 then (if bt108.1 < (bt102.2.1.length : Int) then (some (bt102.1, (bt102.2.1.set (bt108.1 : Int).toNat (⟨(rd_T33 bt102.2.1 bt108.1).f0, (rd_T33 bt102.2.1 bt108.1).f1, bt122.1, (rd_T33 bt102.2.1 bt108.1).f3, (rd_T33 bt102.2.1 bt108.1).f4⟩ : S33)), bt122.2)) else (none)) else (none))) else (if bt110.1 = 2 then ((spec_l30Rd_one.f k s0_0 bt110.2 (([0, 1, 9, 8] : List Int))).bind fun bt128 => (some (bt128.1, bt102.2.1, bt128.2))) else (some (bt102.1, bt102.2.1, bt110.2))))))) else (some (bt102.1, bt102.2.1, bt102.2.2)))
def spec_l30AnyNet.T6 : Bool × List (List Nat × List Nat) := (true, [([], []), ([0], [0]), ([], []), ([], []), ([], []), ([4], [4]), ([], []), ([5, 6], [5, 6]), ([7], [7]), ([8], [8]), ([9], [9]), ([3, 10], [3, 10]), ([1, 2, 0, 1, 2, 3, 4, 5, 6, 7, 8, 9, 10, 11], [1, 2]), ([12, 0, 1, 2, 3, 4, 5, 6, 7, 8, 9, 10, 11], [12]), ([13, 11, 11, 0, 1, 2, 3, 4, 5, 6, 7, 8, 9, 10, 11], [11, 13])])
def spec_l30AnyNet.B6 : List Nat := [0, 1, 0, 0, 0, 16, 0, 112, 240, 496, 1008, 2040, 4095, 8191, 16383]
theorem spec_l30AnyNet.tab6 : rtab .any (opsOf Try.f98 6) = spec_l30AnyNet.T6 := by kernel_rfl
theorem spec_l30AnyNet.bits6 : waitsOk spec_l30AnyNet.T6.2 spec_l30AnyNet.B6 = true := by kernel_rfl
def spec_l30AnyNet.T8 : Bool × List (List Nat × List Nat) := (true, [([], []), ([0], [0]), ([], []), ([], []), ([], []), ([3, 4], [3, 4]), ([1, 2, 0, 1, 2, 3, 4, 5], [1, 2]), ([6, 0, 1, 2, 3, 4, 5], [6]), ([7, 5, 5, 0, 1, 2, 3, 4, 5], [5, 7])])
def spec_l30AnyNet.B8 : List Nat := [0, 1, 0, 0, 0, 24, 63, 127, 255]
theorem spec_l30AnyNet.tab8 : rtab .any (opsOf Try.f98 8) = spec_l30AnyNet.T8 := by kernel_rfl
theorem spec_l30AnyNet.bits8 : waitsOk spec_l30AnyNet.T8.2 spec_l30AnyNet.B8 = true := by kernel_rfl
set_option maxHeartbeats 8000000 in
set_option maxRecDepth 100000 in
theorem spec_l30AnyNet.calls (k : Nat) (g : Nat) (s0_0 : List Int) (s0_1 : Int) (r1 : Int) (r2 : List (S33)) (r3 : Int) (w0 w : World) (hI : IsS115 w0 w g s0_0 s0_1) (hB : Below w0.heap.size w0 w) (h : spec_l30AnyNet.f k s0_0 s0_1 = some (r1, r2, r3)) :
  Calls Try.prog 98 #[.pointer (some ⟨g, 0, none⟩)] w fun e w' => ∃ v1_ : Value, e = .returned (.agg #[.int .i64 r1, v1_]) ∧ Kd.R k33 33 w' w.heap.size (fun _ => True) v1_ r2 ∧ IsS115 w0 w' g s0_0 r3 ∧ Below w0.heap.size w0 w' ∧ KeepBut w w' g none := by
 have hu25 := Try.underlying25
 have HI0 := Aside0.mk hI
 have HK := Aside0.mk (KeepBut.refl w g none)
 have HL := Aside0.mk hB.size
 have HGL0 := Aside0.mk (IsS115.lt hI)
 clear hI
 have HW0 := Aside0.mk hB.size
 have HB := Aside0.mk hB
 clear hB
 have H : ((spec_l30Net.f k s0_0 s0_1).bind fun bt102 => (if (bt102.2.1.length : Int) > 0 then ((spec_l30Rd_pick.f k s0_0 bt102.2.2 (bt102.2.1.length : Int)).bind fun bt108 => ((spec_l30Rd_pick.f k s0_0 bt108.2 16).bind fun bt110 => (if bt110.1 = 0 then (if 0 ≤ bt108.1 then (if bt108.1 < (bt102.2.1.length : Int) then ((spec_l30Rd_one.f k s0_0 bt110.2 (([(-1), 8, (rd_T33 bt102.2.1 bt108.1).f0] : List Int))).bind fun bt116 => (some (bt102.1, (bt102.2.1.set (bt108.1 : Int).toNat (⟨(rd_T33 bt102.2.1 bt108.1).f0, bt116.1, (rd_T33 bt102.2.1 bt108.1).f2, (rd_T33 bt102.2.1 bt108.1).f3, (rd_T33 bt102.2.1 bt108.1).f4⟩ : S33)), bt116.2))) else (none)) else (none)) else (if bt110.1 = 1 then ((spec_l30Rd_one.f k s0_0 bt110.2 (([(-1), 100] : List Int))).bind fun bt122 => (if 0 ≤ bt108.1 then (if bt108.1 < (bt102.2.1.length : Int) then (some (bt102.1, (bt102.2.1.set (bt108.1 : Int).toNat (⟨(rd_T33 bt102.2.1 bt108.1).f0, (rd_T33 bt102.2.1 bt108.1).f1, bt122.1, (rd_T33 bt102.2.1 bt108.1).f3, (rd_T33 bt102.2.1 bt108.1).f4⟩ : S33)), bt122.2)) else (none)) else (none))) else (if bt110.1 = 2 then ((spec_l30Rd_one.f k s0_0 bt110.2 (([0, 1, 9, 8] : List Int))).bind fun bt128 => (some (bt128.1, bt102.2.1, bt128.2))) else (some (bt102.1, bt102.2.1, bt110.2))))))) else (some (bt102.1, bt102.2.1, bt102.2.2)))) = some (r1, r2, r3) := h
 clear h
 replace H := Option.bind_eq_some_iff.mp H
 obtain ⟨⟨t102, t103, t106⟩, A20, H⟩ := H
 replace H : (if (t103.length : Int) > 0 then ((spec_l30Rd_pick.f k s0_0 t106 (t103.length : Int)).bind fun bt108 => ((spec_l30Rd_pick.f k s0_0 bt108.2 16).bind fun bt110 => (if bt110.1 = 0 then (if 0 ≤ bt108.1 then (if bt108.1 < (t103.length : Int) then ((spec_l30Rd_one.f k s0_0 bt110.2 (([(-1), 8, (rd_T33 t103 bt108.1).f0] : List Int))).bind fun bt116 => (some (t102, (t103.set (bt108.1 : Int).toNat (⟨(rd_T33 t103 bt108.1).f0, bt116.1, (rd_T33 t103 bt108.1).f2, (rd_T33 t103 bt108.1).f3, (rd_T33 t103 bt108.1).f4⟩ : S33)), bt116.2))) else (none)) else (none)) else (if bt110.1 = 1 then ((spec_l30Rd_one.f k s0_0 bt110.2 (([(-1), 100] : List Int))).bind fun bt122 => (if 0 ≤ bt108.1 then (if bt108.1 < (t103.length : Int) then (some (t102, (t103.set (bt108.1 : Int).toNat (⟨(rd_T33 t103 bt108.1).f0, (rd_T33 t103 bt108.1).f1, bt122.1, (rd_T33 t103 bt108.1).f3, (rd_T33 t103 bt108.1).f4⟩ : S33)), bt122.2)) else (none)) else (none))) else (if bt110.1 = 2 then ((spec_l30Rd_one.f k s0_0 bt110.2 (([0, 1, 9, 8] : List Int))).bind fun bt128 => (some (bt128.1, t103, bt128.2))) else (some (t102, t103, bt110.2))))))) else (some (t102, t103, t106))) = some (r1, r2, r3) := H
 have A2 := Aside0.mk A20
 clear A20
 have HH_ := Aside0.mk H
 clear H
 go_enter Try.func98, Try.ntmps98
 go_upto_region 2 with (first | ((with_reducible refine gate_dst (N := 2) rfl ?_); refine box_event ?hg (N := 2) ?hd (cs := #[.int .i64 0, .slice none 0 0]) (t := 25) ?hr ?_; (case hd => rfl); (case hg => rfl); (case hr => first | (go_simp; done) | (go_simp; rfl)); intro gb101 hg w3 hbox hb; have n0_ := Aside0.mk (IsS115.below (uI0 HI0) hb); have n1_ := Aside0.mk (KeepBut.trans (uK0 HK) (KeepBut.of_below hb g none) (.inl rfl)); have n2_ := Aside0.mk (below_step (uB1 HB (IsS115.ge HI0.out)) hb); have n3_ := Aside0.mk (hbox); have n4_ := Aside0.mk ((by rw [hg]; exact (keep_size (w := w) (g := g) (row := none) (uK0 HK)) : w.heap.size ≤ gb101)); have n5_ := Aside0.mk ((Nat.le_trans HW0.out (by rw [hg]; exact (keep_size (w := w) (g := g) (row := none) (uK0 HK)) : w.heap.size ≤ gb101) : w0.heap.size ≤ gb101)); have n6_ := Aside0.mk ((by rw [hg]; exact Nat.ne_of_lt (Nat.lt_of_lt_of_le HGL0.out (keep_size (w := w) (g := g) (row := none) (uK0 HK))) : g ≠ gb101)); have n7_ := Aside0.mk ((by rw [hg]; exact Nat.ne_of_gt (Nat.lt_of_lt_of_le HGL0.out (keep_size (w := w) (g := g) (row := none) (uK0 HK))) : gb101 ≠ g)); clear HI0; clear HK; clear HB; have HI0 := n0_; have HK := n1_; have HB := n2_; have BK101 := n3_; have GW101 := n4_; have GE101 := n5_; have NB0_101 := n6_; have NB101_0 := n7_; clear n0_ n1_ n2_ n3_ n4_ n5_ n6_ n7_; clear hb hbox hg) | ((with_reducible refine gate_callee (f := 148) rfl ?_); refine goesL_ (some 6) rfl rfl Try.func148 (by kernel_rfl) rfl #[.pointer (some ⟨g, 0, none⟩)] rfl ul ?_; (with_reducible refine (spec_l30Net.calls k g s0_0 s0_1 t102 t103 t106 w0 _ ?side1 ?side2 A2.out).mono ?_); (case side1 => exact uI1 HI0 NB0_101.out); (case side2 => exact uB2 HB (IsS115.ge HI0.out) GE101.out); rintro e w4 ⟨v104, rfl, ho0, hi, hb, hk⟩; refine ⟨_, rfl, ?_⟩; have n0_ := Aside0.mk (KeepBut.blk hk (g' := gb101) (o := .cells #[.int .i64 0, .slice none 0 0] 25 (0, 0)) (ub BK101) NB101_0.out (by simp)); have n1_ := Aside0.mk (Kd.R_lower ho0 (keep_size (w := w) (g := g) (row := none) (uK1 HK GW101.out))); have n2_ := Aside0.mk (KeepBut.trans (uK1 HK GW101.out) hk (.inl rfl)); have n3_ := Aside0.mk (hb); have n4_ := Aside0.mk (hi); clear BK101; clear HK; clear HB; clear HI0; have BK101 := n0_; have HO105 := n1_; have HK := n2_; have HB := n3_; have HI0 := n4_; clear n0_ n1_ n2_ n3_ n4_; (try clear hb); (try clear hb2); (try clear hk); (try clear hi); (try clear ho0)) | ((with_reducible refine gate_dst (N := 3) rfl ?_); refine box_event ?hg (N := 3) ?hd (cs := #[.int .i64 0, .slice none 0 0]) (t := 25) ?hr ?_; (case hd => rfl); (case hg => rfl); (case hr => first | (go_simp; done) | (go_simp; rfl)); intro gb107 hg w5 hbox hb; have n0_ := Aside0.mk (Kd.R_below (ur HO105) hb); have n1_ := Aside0.mk (IsS115.below (uI1 HI0 NB0_101.out) hb); have n2_ := Aside0.mk (blk_below (g := gb101) (o := .cells #[.int .i64 0, .slice none 0 0] 25 (0, 0)) (ub BK101) hb); have n3_ := Aside0.mk (KeepBut.trans (uK1 HK GW101.out) (KeepBut.of_below hb g none) (.inl rfl)); have n4_ := Aside0.mk (below_step (uB2 HB (IsS115.ge HI0.out) GE101.out) hb); have n5_ := Aside0.mk (hbox); have n6_ := Aside0.mk ((by rw [hg]; exact (keep_size (w := w) (g := g) (row := none) (uK1 HK GW101.out)) : w.heap.size ≤ gb107)); have n7_ := Aside0.mk ((Nat.le_trans HW0.out (by rw [hg]; exact (keep_size (w := w) (g := g) (row := none) (uK1 HK GW101.out)) : w.heap.size ≤ gb107) : w0.heap.size ≤ gb107)); have n8_ := Aside0.mk ((by rw [hg]; exact Nat.ne_of_lt (blk_lt (g := gb101) (o := .cells #[.int .i64 0, .slice none 0 0] 25 (0, 0)) (ub BK101)) : gb101 ≠ gb107)); have n9_ := Aside0.mk ((by rw [hg]; exact Nat.ne_of_gt (blk_lt (g := gb101) (o := .cells #[.int .i64 0, .slice none 0 0] 25 (0, 0)) (ub BK101)) : gb107 ≠ gb101)); have n10_ := Aside0.mk ((by rw [hg]; exact Nat.ne_of_lt (Nat.lt_of_lt_of_le HGL0.out (keep_size (w := w) (g := g) (row := none) (uK1 HK GW101.out))) : g ≠ gb107)); have n11_ := Aside0.mk ((by rw [hg]; exact Nat.ne_of_gt (Nat.lt_of_lt_of_le HGL0.out (keep_size (w := w) (g := g) (row := none) (uK1 HK GW101.out))) : gb107 ≠ g)); clear HO105; clear HI0; clear BK101; clear HK; clear HB; have HO105 := n0_; have HI0 := n1_; have BK101 := n2_; have HK := n3_; have HB := n4_; have BK107 := n5_; have GW107 := n6_; have GE107 := n7_; have NB101_107 := n8_; have NB107_101 := n9_; have NB0_107 := n10_; have NB107_0 := n11_; clear n0_ n1_ n2_ n3_ n4_ n5_ n6_ n7_ n8_ n9_ n10_ n11_; clear hb hbox hg; have hnb6 := NB107_101.out; have hnc6 := NB101_107.out; have hnb7 := NB107_0.out; have hnc7 := NB0_107.out; have hcz8_0 : w5.cell? ⟨gb107, 0, none⟩ = some (.int .i64 0) := (blk_cell BK107.out 0).trans rfl; have hcz8_1 : w5.cell? ⟨gb107, 1, none⟩ = some (.slice none 0 0) := (blk_cell BK107.out 1).trans rfl; have hfz8_0 := blk_frozen BK107.out 0; have hfz8_1 := blk_frozen BK107.out 1; obtain ⟨Ao9, co9, eo9⟩ := Kd.R_slice HO105.out; subst eo9))
 have H := HH_.out
 clear HH_
 by_cases c10 : (t103.length : Int) > 0
 ·
  rw [if_pos c10] at H
  have c10b0 : decide (0 < (t103.length : Int)) = true := decide_eq_true c10
  have c10b1 : decide (0 < t103.length) = true := decide_eq_true (by omega)
  clear c10
  replace H := Option.bind_eq_some_iff.mp H
  obtain ⟨⟨t108, t109⟩, A110, H⟩ := H
  replace H : ((spec_l30Rd_pick.f k s0_0 t109 16).bind fun bt110 => (if bt110.1 = 0 then (if 0 ≤ t108 then (if t108 < (t103.length : Int) then ((spec_l30Rd_one.f k s0_0 bt110.2 (([(-1), 8, (rd_T33 t103 t108).f0] : List Int))).bind fun bt116 => (some (t102, (t103.set (t108 : Int).toNat (⟨(rd_T33 t103 t108).f0, bt116.1, (rd_T33 t103 t108).f2, (rd_T33 t103 t108).f3, (rd_T33 t103 t108).f4⟩ : S33)), bt116.2))) else (none)) else (none)) else (if bt110.1 = 1 then ((spec_l30Rd_one.f k s0_0 bt110.2 (([(-1), 100] : List Int))).bind fun bt122 => (if 0 ≤ t108 then (if t108 < (t103.length : Int) then (some (t102, (t103.set (t108 : Int).toNat (⟨(rd_T33 t103 t108).f0, (rd_T33 t103 t108).f1, bt122.1, (rd_T33 t103 t108).f3, (rd_T33 t103 t108).f4⟩ : S33)), bt122.2)) else (none)) else (none))) else (if bt110.1 = 2 then ((spec_l30Rd_one.f k s0_0 bt110.2 (([0, 1, 9, 8] : List Int))).bind fun bt128 => (some (bt128.1, t103, bt128.2))) else (some (t102, t103, bt110.2)))))) = some (r1, r2, r3) := H
  have A11 := Aside0.mk A110
  clear A110
  replace H := Option.bind_eq_some_iff.mp H
  obtain ⟨⟨t110, t111⟩, A120, H⟩ := H
  replace H : (if t110 = 0 then (if 0 ≤ t108 then (if t108 < (t103.length : Int) then ((spec_l30Rd_one.f k s0_0 t111 (([(-1), 8, (rd_T33 t103 t108).f0] : List Int))).bind fun bt116 => (some (t102, (t103.set (t108 : Int).toNat (⟨(rd_T33 t103 t108).f0, bt116.1, (rd_T33 t103 t108).f2, (rd_T33 t103 t108).f3, (rd_T33 t103 t108).f4⟩ : S33)), bt116.2))) else (none)) else (none)) else (if t110 = 1 then ((spec_l30Rd_one.f k s0_0 t111 (([(-1), 100] : List Int))).bind fun bt122 => (if 0 ≤ t108 then (if t108 < (t103.length : Int) then (some (t102, (t103.set (t108 : Int).toNat (⟨(rd_T33 t103 t108).f0, (rd_T33 t103 t108).f1, bt122.1, (rd_T33 t103 t108).f3, (rd_T33 t103 t108).f4⟩ : S33)), bt122.2)) else (none)) else (none))) else (if t110 = 2 then ((spec_l30Rd_one.f k s0_0 t111 (([0, 1, 9, 8] : List Int))).bind fun bt128 => (some (bt128.1, t103, bt128.2))) else (some (t102, t103, t111))))) = some (r1, r2, r3) := H
  have A12 := Aside0.mk A120
  clear A120
  have HH_ := Aside0.mk H
  clear H
  go_upto_region 5 with (first | ((with_reducible refine gate_callee (f := 137) rfl ?_); refine goesL_ (some 15) rfl rfl Try.func137 (by kernel_rfl) rfl #[.pointer (some ⟨g, 0, none⟩), .int .i64 (t103.length : Int)] rfl ul ?_; (with_reducible refine (spec_l30Rd_pick.calls k g s0_0 t106 (t103.length : Int) t108 t109 w0 _ ?side1 ?side2 A11.out).mono ?_); (case side1 => exact uI2 HI0 NB0_101.out NB0_107.out); (case side2 => exact uB3 HB (IsS115.ge HI0.out) GE101.out GE107.out); rintro e w10 ⟨rfl, hi, hb, hk⟩; refine ⟨_, rfl, ?_⟩; have n0_ := Aside0.mk (KeepBut.blk hk (g' := gb101) (o := .cells #[.int .i64 0, .slice none 0 0] 25 (0, 0)) (by (with_reducible repeat (first | refine blk_drewN ?_ _ | refine blk_drew ?_ | refine blk_alloc ?_ _)); refine blk_far ?_ NB101_107.out _; (with_reducible repeat (first | refine blk_drewN ?_ _ | refine blk_drew ?_ | refine blk_alloc ?_ _)); refine blk_far ?_ NB101_107.out _; exact ub BK101) NB101_0.out (by simp)); have n1_ := Aside0.mk (Kd.R_mono (Kd.R_keep (IsS115.apart (show IsS115 w0 _ g s0_0 t106 from uI2 HI0 NB0_101.out NB0_107.out) (by (with_reducible repeat (first | apply Kd.R_alloc | apply Kd.R_drewN | apply Kd.R_drew)); exact (Kd.R_mono (Kd.R_far (p := ⟨gb107, 1, none⟩) (Kd.R_far (p := ⟨gb107, 0, none⟩) (Kd.R_types HO105.out BK107.out (by decide)) (fun _ hk => hk.2) (.int .i64 t102)) (fun _ hk => hk.2) (.slice Ao9 t103.length co9)) (fun _ h_ => h_.1))) (by decide)) hk (fun _ h => h.2)) (fun _ h => h.1)); have n2_ := Aside0.mk (KeepBut.blk hk (g' := gb107) (o := .cells #[.int .i64 t102, .slice Ao9 t103.length co9] 25 (0, 0)) (by (with_reducible repeat (first | refine blk_drewN ?_ _ | refine blk_drew ?_ | refine blk_alloc ?_ _)); refine blk_put (cs := #[.int .i64 t102, .slice none 0 0]) ?_ 1 _ rfl; (with_reducible repeat (first | refine blk_drewN ?_ _ | refine blk_drew ?_ | refine blk_alloc ?_ _)); refine blk_put (cs := #[.int .i64 0, .slice none 0 0]) ?_ 0 _ rfl; exact ub BK107) NB107_0.out (by simp)); have n3_ := Aside0.mk (KeepBut.trans (uK2 HK GW101.out GW107.out) hk (.inl rfl)); have n4_ := Aside0.mk (hb); have n5_ := Aside0.mk (hi); clear BK101; clear HO105; clear BK107; clear HK; clear HB; clear HI0; have BK101 := n0_; have HO105 := n1_; have BK107 := n2_; have HK := n3_; have HB := n4_; have HI0 := n5_; clear n0_ n1_ n2_ n3_ n4_ n5_; (try clear hb); (try clear hb2); (try clear hk); (try clear hi)) | ((with_reducible refine gate_callee (f := 137) rfl ?_); refine goesL_ (some 17) rfl rfl Try.func137 (by kernel_rfl) rfl #[.pointer (some ⟨g, 0, none⟩), .int .i64 16] rfl ul ?_; (with_reducible refine (spec_l30Rd_pick.calls k g s0_0 t109 16 t110 t111 w0 _ ?side1 ?side2 A12.out).mono ?_); (case side1 => exact uI2 HI0 NB0_101.out NB0_107.out); (case side2 => exact uB3 HB (IsS115.ge HI0.out) GE101.out GE107.out); rintro e w11 ⟨rfl, hi, hb, hk⟩; refine ⟨_, rfl, ?_⟩; have n0_ := Aside0.mk (KeepBut.blk hk (g' := gb101) (o := .cells #[.int .i64 0, .slice none 0 0] 25 (0, 0)) (ub BK101) NB101_0.out (by simp)); have n1_ := Aside0.mk (Kd.R_mono (Kd.R_keep (IsS115.apart (show IsS115 w0 _ g s0_0 t109 from uI2 HI0 NB0_101.out NB0_107.out) (ur HO105) (by decide)) hk (fun _ h => h.2)) (fun _ h => h.1)); have n2_ := Aside0.mk (KeepBut.blk hk (g' := gb107) (o := .cells #[.int .i64 t102, .slice Ao9 t103.length co9] 25 (0, 0)) (ub BK107) NB107_0.out (by simp)); have n3_ := Aside0.mk (KeepBut.trans (uK2 HK GW101.out GW107.out) hk (.inl rfl)); have n4_ := Aside0.mk (hb); have n5_ := Aside0.mk (hi); clear BK101; clear HO105; clear BK107; clear HK; clear HB; clear HI0; have BK101 := n0_; have HO105 := n1_; have BK107 := n2_; have HK := n3_; have HB := n4_; have HI0 := n5_; clear n0_ n1_ n2_ n3_ n4_ n5_; (try clear hb); (try clear hb2); (try clear hk); (try clear hi)))
  have H := HH_.out
  clear HH_
  by_cases c13 : t110 = 0
  ·
   rw [if_pos c13] at H
   have c13b0 : (t110 == 0) = true := beq_iff_eq.mpr c13
   have c13b1 : (t110 != 0) = false := bne_eq_false_iff_eq.mpr c13
   clear c13
   by_cases c14 : 0 ≤ t108
   ·
    rw [if_pos c14] at H
    have c14b0 : decide (0 ≤ t108) = true := decide_eq_true c14
    clear c14
    by_cases c15 : t108 < (t103.length : Int)
    ·
     rw [if_pos c15] at H
     have c15b0 : decide (t108 < (t103.length : Int)) = true := decide_eq_true c15
     clear c15
     obtain ⟨y113, hy113⟩ : ∃ y_ : List Int, y_ = (([(-1), 8, (rd_T33 t103 t108).f0] : List Int)) := ⟨_, rfl⟩
     replace H : ((spec_l30Rd_one.f k s0_0 t111 y113).bind fun bt116 => (some (t102, (t103.set (t108 : Int).toNat (⟨(rd_T33 t103 t108).f0, bt116.1, (rd_T33 t103 t108).f2, (rd_T33 t103 t108).f3, (rd_T33 t103 t108).f4⟩ : S33)), bt116.2))) = some (r1, r2, r3) := by first | (rw [hy113]; with_reducible exact H) | (have H2_ := (Option.bind_some _ _).symm.trans H; rw [hy113]; with_reducible exact H2_) | (have H2_ := (Option.bind_some _ _).symm.trans H; with_reducible exact H2_) | with_reducible exact H | (rw [hy113]; exact H) | exact H
     have Ny113 := Aside0.mk hy113
     clear hy113
     replace H := Option.bind_eq_some_iff.mp H
     obtain ⟨⟨t116, t117⟩, A160, H⟩ := H
     replace H : (some (t102, (t103.set (t108 : Int).toNat (⟨(rd_T33 t103 t108).f0, t116, (rd_T33 t103 t108).f2, (rd_T33 t103 t108).f3, (rd_T33 t103 t108).f4⟩ : S33)), t117)) = some (r1, r2, r3) := H
     have A16 := Aside0.mk A160
     clear A160
     obtain ⟨y118, hy118⟩ : ∃ y_ : List (S33), y_ = (t103.set (t108 : Int).toNat (⟨(rd_T33 t103 t108).f0, t116, (rd_T33 t103 t108).f2, (rd_T33 t103 t108).f3, (rd_T33 t103 t108).f4⟩ : S33)) := ⟨_, rfl⟩
     replace H : (some (t102, y118, t117)) = some (r1, r2, r3) := by first | (rw [hy118]; with_reducible exact H) | (have H2_ := (Option.bind_some _ _).symm.trans H; rw [hy118]; with_reducible exact H2_) | (have H2_ := (Option.bind_some _ _).symm.trans H; with_reducible exact H2_) | with_reducible exact H | (rw [hy118]; exact H) | exact H
     have Ny118 := Aside0.mk hy118
     clear hy118
     simp only [Option.some.injEq, Prod.mk.injEq] at H
     obtain ⟨rfl, rfl, rfl⟩ := H
     try go_wp2
     have n0_ := Aside0.mk (Kd.R_drew HO105.out)
     have n1_ := Aside0.mk (blk_drew BK101.out)
     have n2_ := Aside0.mk (blk_drew BK107.out)
     have n3_ := Aside0.mk (IsS115.drew HI0.out)
     have n4_ := Aside0.mk (keep_drew HK.out)
     have n5_ := Aside0.mk (below_drew1 HB.out)
     clear HO105
     clear BK101
     clear BK107
     clear HI0
     clear HK
     clear HB
     have HO105 := n0_
     have BK101 := n1_
     have BK107 := n2_
     have HI0 := n3_
     have HK := n4_
     have HB := n5_
     clear n0_ n1_ n2_ n3_ n4_ n5_
     have p112 : 0 ≤ (t108 : Int) := ua
     have q112 : t108 < (t103.length : Int) := ua
     obtain ⟨ad112, e112, hx112_0, hx112_1, hx112_2, hx112_3, hx112_4⟩ := at_T33 (Kd.R_reads' HO105.out).2.2 t108 p112 q112
     cases e112
     replace p112 := eq_true p112
     replace q112 := eq_true q112
     refine start_ (n := 15) (S := fun w' => w'.cell? ⟨gb107, 0, none⟩ = some (.int .i64 t102) ∧ w'.cell? ⟨gb107, 1, none⟩ = some (.slice (some ad112) t103.length co9) ∧ w'.cell? (ad112.add ((t108).toNat * 5)) = some (.int .i64 ((rd_T33 t103 t108).f0)) ∧ w'.cell? ⟨(ad112.add ((t108).toNat * 5)).block, (ad112.add ((t108).toNat * 5)).off + 1, none⟩ = some (.int .i64 ((rd_T33 t103 t108).f1)) ∧ w'.cell? ⟨(ad112.add ((t108).toNat * 5)).block, (ad112.add ((t108).toNat * 5)).off + 2, none⟩ = some (.int .i64 ((rd_T33 t103 t108).f2)) ∧ w'.cell? ⟨(ad112.add ((t108).toNat * 5)).block, (ad112.add ((t108).toNat * 5)).off + 3, none⟩ = some (.int .i64 ((rd_T33 t103 t108).f3)) ∧ w'.cell? ⟨(ad112.add ((t108).toNat * 5)).block, (ad112.add ((t108).toNat * 5)).off + 4, none⟩ = some (.int .i64 ((rd_T33 t103 t108).f4))) (ds := [14]) #[false, false, false, false, false, false, false, false, false, false, false, false, false, false, false] (by kernel_rfl) rfl rfl ⟨(blk_cell BK107.out 0).trans rfl, (blk_cell BK107.out 1).trans rfl, hx112_0, hx112_1, hx112_2, hx112_3, hx112_4⟩ (fun hHeld => ?_); refine with_tabW spec_l30AnyNet.tab6 spec_l30AnyNet.bits6 (fun HT_ HW_ => ?_)
     generalize w11.drew = w12 at HO105 BK101 BK107 HI0 HK HB hx112_0 hx112_1 hx112_2 hx112_3 hx112_4 hHeld ⊢
     refine pure_ (i := 0) (N := some 20) (v := ?_) (a' := ?_) #[true, false, false, false, false, false, false, false, false, false, false, false, false, false, false] rfl rfl (any_of HT_.out (by kernel_rfl)) (fun _ _ _ h => h) (Or.inl ⟨by rfl, ?_⟩) ?_ ?_
     rotate_left
     ·
      intro w'
      go_simp
      with_reducible rfl
     rotate_left
     ·
      simp only [Act.put, List.setIfInBounds_toArray, List.set_cons_zero, List.set_cons_succ, i64_w, i32_w]
      rfl
     refine pure_ (i := 2) (N := some 22) (v := ?_) (a' := ?_) #[true, false, true, false, false, false, false, false, false, false, false, false, false, false, false] rfl rfl (any_of HT_.out (by kernel_rfl)) (fun _ _ _ h => h) (Or.inl ⟨by rfl, ?_⟩) ?_ ?_
     rotate_left
     ·
      intro w'
      go_simp
      with_reducible rfl
     rotate_left
     ·
      simp only [Act.put, List.setIfInBounds_toArray, List.set_cons_zero, List.set_cons_succ, i64_w, i32_w]
      rfl
     refine pure_ (i := 3) (N := some 23) (v := ?_) (a' := ?_) #[true, false, true, true, false, false, false, false, false, false, false, false, false, false, false] rfl rfl (any_of HT_.out (by kernel_rfl)) (fun _ _ _ h => h) (Or.inl ⟨by rfl, ?_⟩) ?_ ?_
     rotate_left
     ·
      intro w'
      go_simp
      with_reducible rfl
     rotate_left
     ·
      simp only [Act.put, List.setIfInBounds_toArray, List.set_cons_zero, List.set_cons_succ, i64_w, i32_w]
      rfl
     refine pure_ (i := 4) (N := some 24) (v := ?_) (a' := ?_) #[true, false, true, true, true, false, false, false, false, false, false, false, false, false, false] rfl rfl (any_of HT_.out (by kernel_rfl)) (fun _ _ _ h => h) (Or.inl ⟨by rfl, ?_⟩) ?_ ?_
     rotate_left
     ·
      intro w'
      go_simp
      with_reducible rfl
     rotate_left
     ·
      simp only [Act.put, List.setIfInBounds_toArray, List.set_cons_zero, List.set_cons_succ, i64_w, i32_w]
      rfl
     refine pure_ (i := 6) (N := some 26) (v := ?_) (a' := ?_) #[true, false, true, true, true, false, true, false, false, false, false, false, false, false, false] rfl rfl (any_of HT_.out (by kernel_rfl)) (fun _ _ _ h => h) (Or.inl ⟨by rfl, ?_⟩) ?_ ?_
     rotate_left
     ·
      intro w'
      go_simp
      with_reducible rfl
     rotate_left
     ·
      simp only [Act.put, List.setIfInBounds_toArray, List.set_cons_zero, List.set_cons_succ, i64_w, i32_w]
      rfl
     refine take_ (i := 1) (N := some 21) (v := ?_) (a' := ?_) #[true, true, true, true, true, false, true, false, false, false, false, false, false, false, false] rfl rfl (take_ofW HT_.out HW_.out (by kernel_rfl)) (fun _ _ _ h => h) (Or.inl ⟨by rfl, ?_⟩) hHeld ?_ ?_
     rotate_left
     ·
      rintro w' ⟨s0, s1, s2, s3, s4, s5, s6⟩
      go_simp
      with_reducible rfl
     rotate_left
     ·
      simp only [Act.put, List.setIfInBounds_toArray, List.set_cons_zero, List.set_cons_succ, i64_w, i32_w]
      rfl
     refine take_ (i := 5) (N := some 25) (v := ?_) (a' := ?_) #[true, true, true, true, true, true, true, false, false, false, false, false, false, false, false] rfl rfl (take_ofW HT_.out HW_.out (by kernel_rfl)) (fun _ _ _ h => h) (Or.inl ⟨by rfl, ?_⟩) hHeld ?_ ?_
     rotate_left
     ·
      rintro w' ⟨s0, s1, s2, s3, s4, s5, s6⟩
      go_simp
      with_reducible rfl
     rotate_left
     ·
      simp only [Act.put, List.setIfInBounds_toArray, List.set_cons_zero, List.set_cons_succ, i64_w, i32_w]
      rfl
     refine pure_ (i := 7) (N := some 27) (v := ?_) (a' := ?_) #[true, true, true, true, true, true, true, true, false, false, false, false, false, false, false] rfl rfl (any_of HT_.out (by kernel_rfl)) (fun _ _ _ h => h) (Or.inl ⟨by rfl, ?_⟩) ?_ ?_
     rotate_left
     ·
      intro w'
      go_simp
      with_reducible rfl
     rotate_left
     ·
      simp only [Act.put, List.setIfInBounds_toArray, List.set_cons_zero, List.set_cons_succ, i64_w, i32_w]
      rfl
     refine pure_ (i := 8) (N := some 28) (v := ?_) (a' := ?_) #[true, true, true, true, true, true, true, true, true, false, false, false, false, false, false] rfl rfl (any_of HT_.out (by kernel_rfl)) (fun _ _ _ h => h) (Or.inl ⟨by rfl, ?_⟩) ?_ ?_
     rotate_left
     ·
      intro w'
      go_simp
      with_reducible rfl
     rotate_left
     ·
      simp only [Act.put, List.setIfInBounds_toArray, List.set_cons_zero, List.set_cons_succ, i64_w, i32_w]
      rfl
     refine take_ (i := 9) (N := some 29) (v := ?_) (a' := ?_) #[true, true, true, true, true, true, true, true, true, true, false, false, false, false, false] rfl rfl (take_ofW HT_.out HW_.out (by kernel_rfl)) (fun _ _ _ h => h) (Or.inl ⟨by rfl, ?_⟩) hHeld ?_ ?_
     rotate_left
     ·
      rintro w' ⟨s0, s1, s2, s3, s4, s5, s6⟩
      go_simp
      with_reducible rfl
     rotate_left
     ·
      simp only [Act.put, List.setIfInBounds_toArray, List.set_cons_zero, List.set_cons_succ, i64_w, i32_w]
      rfl
     refine one_ (i := 10) (N := some 30) #[true, true, true, true, true, true, true, true, true, true, true, false, false, false, false] rfl rfl (one_of HT_.out (by kernel_rfl)) (by decide) (fun K hK => ?_)
     refine Kd.R_lit_step (Kd.int .i64) _ 3 ?hg (N := 30) ?hd (xs := ([(-1), 8, (rd_T33 t103 t108).f0] : List Int)) (inner := [.int .i64 (-1), .int .i64 8, .int .i64 ((rd_T33 t103 t108).f0)]) (ok := fun _ => True) (okp := fun _ => True) ?hr ?hp (fun _ hk => hk) trivial (Below.refl _ _) (Nat.le_refl _) (by simp) ?_; (case hd => rfl); (case hg => rfl); (case hr => first | (go_simp; done) | (go_simp; rfl)); (case hp => exact (Reps.one (show Kd.M (Kd.int .i64) _ _ _ (-1) [.int .i64 (-1)] from rfl) (Reps.one (show Kd.M (Kd.int .i64) _ _ _ 8 [.int .i64 8] from rfl) (Reps.one (show Kd.M (Kd.int .i64) _ _ _ ((rd_T33 t103 t108).f0) [.int .i64 ((rd_T33 t103 t108).f0)] from rfl) (Reps.none _ _)))))
     intro v114 w13 ho14 hb hg_ hnew_
     have HS2_ := (hb.cell (World.block_lt_of_cell? _ _ (hHeld.2.2.1))).trans (hHeld.2.2.1)
     have HS3_ := (hb.cell (World.block_lt_of_cell? _ _ (hHeld.2.2.2.1))).trans (hHeld.2.2.2.1)
     have HS4_ := (hb.cell (World.block_lt_of_cell? _ _ (hHeld.2.2.2.2.1))).trans (hHeld.2.2.2.2.1)
     have HS5_ := (hb.cell (World.block_lt_of_cell? _ _ (hHeld.2.2.2.2.2.1))).trans (hHeld.2.2.2.2.2.1)
     have HS6_ := (hb.cell (World.block_lt_of_cell? _ _ (hHeld.2.2.2.2.2.2))).trans (hHeld.2.2.2.2.2.2)
     clear hg_ hnew_
     (first | rw [← Ny113.out] at ho14 | (simp only [Int.reduceToNat] at ho14; rw [← Ny113.out] at ho14))
     have n0_ := Aside0.mk (Kd.R_below (ur HO105) hb)
     have n1_ := Aside0.mk (Kd.R_lower ho14 (keep_size (w := w) (g := g) (row := none) (uK2 HK GW101.out GW107.out)))
     have n2_ := Aside0.mk (IsS115.below (uI2 HI0 NB0_101.out NB0_107.out) hb)
     have n3_ := Aside0.mk (blk_below (g := gb101) (o := .cells #[.int .i64 0, .slice none 0 0] 25 (0, 0)) (ub BK101) hb)
     have n4_ := Aside0.mk (blk_below (g := gb107) (o := .cells #[.int .i64 t102, .slice (some ad112) t103.length co9] 25 (0, 0)) (ub BK107) hb)
     have n5_ := Aside0.mk (KeepBut.trans (uK2 HK GW101.out GW107.out) (KeepBut.of_below hb g none) (.inl rfl))
     have n6_ := Aside0.mk (below_step (uB3 HB (IsS115.ge HI0.out) GE101.out GE107.out) hb)
     clear HO105
     clear HI0
     clear BK101
     clear BK107
     clear HK
     clear HB
     have HO105 := n0_
     have HO115 := n1_
     have HI0 := n2_
     have BK101 := n3_
     have BK107 := n4_
     have HK := n5_
     have HB := n6_
     clear n0_ n1_ n2_ n3_ n4_ n5_ n6_
     clear hb ho14
     obtain ⟨Ao15, co15, eo15⟩ := Kd.R_slice HO115.out
     (first | subst eo15 | (injection eo15 with f1_ f2_ f3_; have f4_ := f1_.symm; have f5_ := f3_.symm; clear f1_ f2_ f3_; subst f4_; subst f5_))
     refine hK.out _ _ ⟨(blk_cell BK107.out 0).trans rfl, (blk_cell BK107.out 1).trans rfl, HS2_, HS3_, HS4_, HS5_, HS6_⟩ (fun hHeld => ?_)
     clear hK K
     refine norm_ (a' := ?_) ?_ ?_
     rotate_left
     ·
      show Act.put _ (some 30) _ = _
      simp only [Act.put, List.setIfInBounds_toArray, List.set_cons_zero, List.set_cons_succ, i64_w, i32_w]
      rfl
     refine one_ (i := 11) (N := some 31) #[true, true, true, true, true, true, true, true, true, true, true, true, false, false, false] rfl rfl (one_of HT_.out (by kernel_rfl)) (by decide) (fun K hK => ?_)
     refine goes_ Try.func99 (by kernel_rfl) rfl #[.pointer (some ⟨g, 0, none⟩), .slice Ao15 y113.length co15] (by rfl) rfl rfl ul ?_
     with_reducible refine (spec_l30Rd_one.calls k g s0_0 t111 _ _ y113 t116 t117 w0 _ ?side1 ?side2 ?side3 ?side4 ?side5 A16.out).mono ?_
     (case side1 => exact uI2 HI0 NB0_101.out NB0_107.out)
     (case side2 => exact uB3 HB (IsS115.ge HI0.out) GE101.out GE107.out)
     (case side3 => repeat (first | exact (Kd.R_reads' HO115.out).2.2 | (with_reducible refine Kd.C_alloc ?_ _) | (with_reducible refine Kd.C_drewN ?_ _) | (with_reducible refine Kd.C_drew ?_)))
     (case side4 => exact (Kd.R_reads' HO115.out).2.1)
     (case side5 => exact far_slice (IsS115.own_ne HI0.out HO115.out (by decide)))
     rintro e w16 ⟨rfl, hi, hb, hk⟩
     have HS2_ := keep_cell hk (hHeld.2.2.1) (by first | (rw [add_block]; exact Kd.own_blk (IsS115.own_ne HI0.out HO105.out (by decide))) | (show (Addr.add _ _).block ≠ _; rw [add_block]; exact Kd.own_blk (IsS115.own_ne HI0.out HO105.out (by decide))) | exact Kd.own_blk (IsS115.own_ne HI0.out HO105.out (by decide)))
     have HS3_ := keep_cell hk (hHeld.2.2.2.1) (by first | (rw [add_block]; exact Kd.own_blk (IsS115.own_ne HI0.out HO105.out (by decide))) | (show (Addr.add _ _).block ≠ _; rw [add_block]; exact Kd.own_blk (IsS115.own_ne HI0.out HO105.out (by decide))) | exact Kd.own_blk (IsS115.own_ne HI0.out HO105.out (by decide)))
     have HS4_ := keep_cell hk (hHeld.2.2.2.2.1) (by first | (rw [add_block]; exact Kd.own_blk (IsS115.own_ne HI0.out HO105.out (by decide))) | (show (Addr.add _ _).block ≠ _; rw [add_block]; exact Kd.own_blk (IsS115.own_ne HI0.out HO105.out (by decide))) | exact Kd.own_blk (IsS115.own_ne HI0.out HO105.out (by decide)))
     have HS5_ := keep_cell hk (hHeld.2.2.2.2.2.1) (by first | (rw [add_block]; exact Kd.own_blk (IsS115.own_ne HI0.out HO105.out (by decide))) | (show (Addr.add _ _).block ≠ _; rw [add_block]; exact Kd.own_blk (IsS115.own_ne HI0.out HO105.out (by decide))) | exact Kd.own_blk (IsS115.own_ne HI0.out HO105.out (by decide)))
     have HS6_ := keep_cell hk (hHeld.2.2.2.2.2.2) (by first | (rw [add_block]; exact Kd.own_blk (IsS115.own_ne HI0.out HO105.out (by decide))) | (show (Addr.add _ _).block ≠ _; rw [add_block]; exact Kd.own_blk (IsS115.own_ne HI0.out HO105.out (by decide))) | exact Kd.own_blk (IsS115.own_ne HI0.out HO105.out (by decide)))
     refine ⟨_, rfl, ?_⟩
     have n0_ := Aside0.mk (KeepBut.blk hk (g' := gb101) (o := .cells #[.int .i64 0, .slice none 0 0] 25 (0, 0)) (ub BK101) NB101_0.out (by simp))
     have n1_ := Aside0.mk (Kd.R_mono (Kd.R_keep (IsS115.apart (show IsS115 w0 _ g s0_0 t111 from uI2 HI0 NB0_101.out NB0_107.out) (ur HO105) (by decide)) hk (fun _ h => h.2)) (fun _ h => h.1))
     have n2_ := Aside0.mk (KeepBut.blk hk (g' := gb107) (o := .cells #[.int .i64 t102, .slice (some ad112) t103.length co9] 25 (0, 0)) (ub BK107) NB107_0.out (by simp))
     have n3_ := Aside0.mk (Kd.R_mono (Kd.R_keep (IsS115.apart (show IsS115 w0 _ g s0_0 t111 from uI2 HI0 NB0_101.out NB0_107.out) (ur HO115) (by decide)) hk (fun _ h => h.2)) (fun _ h => h.1))
     have n4_ := Aside0.mk (KeepBut.trans (uK2 HK GW101.out GW107.out) hk (.inl rfl))
     have n5_ := Aside0.mk (hb)
     have n6_ := Aside0.mk (hi)
     clear BK101
     clear HO105
     clear BK107
     clear HO115
     clear HK
     clear HB
     clear HI0
     have BK101 := n0_
     have HO105 := n1_
     have BK107 := n2_
     have HO115 := n3_
     have HK := n4_
     have HB := n5_
     have HI0 := n6_
     clear n0_ n1_ n2_ n3_ n4_ n5_ n6_
     (try clear hb)
     (try clear hb2)
     (try clear hk)
     (try clear hi)
     have p17 : 0 ≤ (t108 : Int) := ua
     have q17 : (t108 : Int) < ((t103.length : Int) : Int) := ua
     obtain ⟨go17, co17, eo17, gb17, gl17, cl17, HG17⟩ := Kd.R_form HO105.out (by omega)
     (first | cases eo17 | (injection eo17 with ea_ en_ ec_; (first | subst ea_ | (injection ea_ with ea_; subst ea_)); subst ec_; clear en_))
     have GB17 := Aside0.mk gb17
     have GG17 := Aside0.mk HG17
     clear gb17 gl17 HG17
     (first | simp only [add_plain] at hx112_0 | skip)
     (first | simp only [add_plain] at hx112_1 | skip)
     (first | simp only [add_plain] at hx112_2 | skip)
     (first | simp only [add_plain] at hx112_3 | skip)
     (first | simp only [add_plain] at hx112_4 | skip)
     obtain ⟨ce17, hcl17, hM17, hcc17, hfr17⟩ := Kd.R_elem HO105.out z33 (t108 : Int) p17 q17
     obtain rfl := k33_openM hM17
     have hx17_0 : World.cell? _ ⟨go17, (t108 : Int).toNat * 5, none⟩ = some (.int .i64 ((rd_T33 t103 t108).f0)) := hcc17 0 _ rfl
     have hx17_1 : World.cell? _ ⟨go17, (t108 : Int).toNat * 5 + 1, none⟩ = some (.int .i64 ((rd_T33 t103 t108).f1)) := hcc17 1 _ rfl
     have hx17_2 : World.cell? _ ⟨go17, (t108 : Int).toNat * 5 + 2, none⟩ = some (.int .i64 ((rd_T33 t103 t108).f2)) := hcc17 2 _ rfl
     have hx17_3 : World.cell? _ ⟨go17, (t108 : Int).toNat * 5 + 3, none⟩ = some (.int .i64 ((rd_T33 t103 t108).f3)) := hcc17 3 _ rfl
     have hx17_4 : World.cell? _ ⟨go17, (t108 : Int).toNat * 5 + 4, none⟩ = some (.int .i64 ((rd_T33 t103 t108).f4)) := hcc17 4 _ rfl
     have hf17_0 : World.frozen? _ ⟨go17, (t108 : Int).toNat * 5, none⟩ = false := hfr17 0
     have hf17_1 : World.frozen? _ ⟨go17, (t108 : Int).toNat * 5 + 1, none⟩ = false := hfr17 1
     have hf17_2 : World.frozen? _ ⟨go17, (t108 : Int).toNat * 5 + 2, none⟩ = false := hfr17 2
     have hf17_3 : World.frozen? _ ⟨go17, (t108 : Int).toNat * 5 + 3, none⟩ = false := hfr17 3
     have hf17_4 : World.frozen? _ ⟨go17, (t108 : Int).toNat * 5 + 4, none⟩ = false := hfr17 4
     clear hcl17 hcc17 hfr17 hM17
     replace p17 := eq_true p17
     replace q17 := eq_true q17
     have HN0_go17 := Aside0.mk (show g ≠ go17 from by have h_ := IsS115.own_ne HI0.out HO105.out (by decide); intro e_; exact h_ (by rw [e_]; rfl))
     obtain ⟨ce17, hcl17, hM17, hcc17, hfr17⟩ := Kd.R_elem HO105.out z33 (t108 : Int) (ua) (by have h_ : (t108 : Int) < ((t103.length : Int) : Int) := ua; first | exact h_ | (have e_ := (Kd.R_reads' HO105.out).1; omega) | simpa using h_)
     obtain rfl := k33_openM hM17
     have HP17 := (Kd.R_seg HO105.out (t108 : Int) (ua) (by have h_ : (t108 : Int) < ((t103.length : Int) : Int) := ua; first | exact h_ | (have e_ := (Kd.R_reads' HO105.out).1; omega) | simpa using h_) (seg := [.int .i64 t116]) (j := 1) hcl17 hcc17 (show 2 ≤ 5 from by decide) (x' := (⟨(rd_T33 t103 t108).f0, t116, (rd_T33 t103 t108).f2, (rd_T33 t103 t108).f3, (rd_T33 t103 t108).f4⟩ : S33)) (k33_mkM _ _ _ (⟨(rd_T33 t103 t108).f0, t116, (rd_T33 t103 t108).f2, (rd_T33 t103 t108).f3, (rd_T33 t103 t108).f4⟩ : S33) ) (fun _ hk => hk)).1
     rw [← Ny118.out] at HP17
     have HQ17 := Aside0.mk HP17
     clear hcl17 hcc17 hfr17 hM17 HP17
     refine hK.out _ _ ⟨(blk_cell BK107.out 0).trans rfl, (blk_cell BK107.out 1).trans rfl, HS2_, HS3_, HS4_, HS5_, HS6_⟩ (fun hHeld => ?_)
     clear hK K
     refine norm_ (a' := ?_) ?_ ?_
     rotate_left
     ·
      show Act.put _ (some 31) _ = _
      simp only [Act.put, List.setIfInBounds_toArray, List.set_cons_zero, List.set_cons_succ, i64_w, i32_w]
      rfl
     refine pure_ (i := 12) (N := some 32) (v := ?_) (a' := ?_) #[true, true, true, true, true, true, true, true, true, true, true, true, true, false, false] rfl rfl (any_of HT_.out (by kernel_rfl)) (fun _ _ _ h => h) (Or.inl ⟨by rfl, ?_⟩) ?_ ?_
     rotate_left
     ·
      intro w'
      go_simp
      with_reducible rfl
     rotate_left
     ·
      simp only [Act.put, List.setIfInBounds_toArray, List.set_cons_zero, List.set_cons_succ, i64_w, i32_w]
      rfl
     refine pure_ (i := 13) (N := some 33) (v := ?_) (a' := ?_) #[true, true, true, true, true, true, true, true, true, true, true, true, true, true, false] rfl rfl (any_of HT_.out (by kernel_rfl)) (fun _ _ _ h => h) (Or.inl ⟨by rfl, ?_⟩) ?_ ?_
     rotate_left
     ·
      intro w'
      go_simp
      with_reducible rfl
     rotate_left
     ·
      simp only [Act.put, List.setIfInBounds_toArray, List.set_cons_zero, List.set_cons_succ, i64_w, i32_w]
      rfl
     refine last_ (i := 14) (N := none) #[true, true, true, true, true, true, true, true, true, true, true, true, true, true, true] rfl rfl (one_of HT_.out (by kernel_rfl)) (by decide) (fun K hK => ?_)
     refine skip_ (w1 := ?_) (by rfl) rfl ?_ ?_
     rotate_left
     ·
      go_simp
      rfl
     refine hK.out _ _ ?_
     clear hK K
     refine done_ (done_of HT_.out (by kernel_rfl)) ?_
     have n0_ : Aside0 (Kd.R k33 33 (w16.setCell ⟨go17, (t108 : Int).toNat * 5 + 1, none⟩ (.int .i64 t116)) w.heap.size (fun _ => True) (.slice (some ⟨go17, 0, none⟩) t103.length co9) y118) := ⟨ur HQ17⟩
     have n1_ : Aside0 (Kd.R (Kd.int .i64) 3 (w16.setCell ⟨go17, (t108 : Int).toNat * 5 + 1, none⟩ (.int .i64 t116)) w.heap.size (fun _ => True) (.slice Ao15 y113.length co15) y113) := ⟨by (with_reducible repeat (first | apply Kd.R_alloc | apply Kd.R_drewN | apply Kd.R_drew)); exact Kd.R_mono (Kd.R_far (p := ⟨go17, (t108 : Int).toNat * 5 + 1, none⟩) (Kd.R_types2 HO115.out (Kd.R_typed HO105.out) rfl (by decide)) (fun _ hk => hk.2) (.int .i64 t116)) (fun _ hk => trivial)⟩
     have n2_ : Aside0 ((w16.setCell ⟨go17, (t108 : Int).toNat * 5 + 1, none⟩ (.int .i64 t116)).heap[gb101]? = some (.cells #[.int .i64 0, .slice none 0 0] 25 (0, 0))) := ⟨by (with_reducible repeat (first | refine blk_drewN ?_ _ | refine blk_drew ?_ | refine blk_alloc ?_ _)); refine blk_far ?_ (by have h_ := Kd.R_ne HO105.out BK101.out (by decide); intro e_; exact h_ (by rw [e_]; rfl)) _; exact ub BK101⟩
     have n3_ : Aside0 ((w16.setCell ⟨go17, (t108 : Int).toNat * 5 + 1, none⟩ (.int .i64 t116)).heap[gb107]? = some (.cells #[.int .i64 t102, .slice (some ⟨go17, 0, none⟩) t103.length co9] 25 (0, 0))) := ⟨by (with_reducible repeat (first | refine blk_drewN ?_ _ | refine blk_drew ?_ | refine blk_alloc ?_ _)); refine blk_far ?_ (by have h_ := Kd.R_ne HO105.out BK107.out (by decide); intro e_; exact h_ (by rw [e_]; rfl)) _; exact ub BK107⟩
     have n4_ : Aside0 (IsS115 w0 (w16.setCell ⟨go17, (t108 : Int).toNat * 5 + 1, none⟩ (.int .i64 t116)) g s0_0 t117) := ⟨uI3 HI0 HN0_go17.out NB0_101.out NB0_107.out⟩
     have n5_ : Aside0 (KeepBut w (w16.setCell ⟨go17, (t108 : Int).toNat * 5 + 1, none⟩ (.int .i64 t116)) g none) := ⟨uK3 HK GB17.out GW101.out GW107.out⟩
     have n6_ : Aside0 (Below w0.heap.size w0 (w16.setCell ⟨go17, (t108 : Int).toNat * 5 + 1, none⟩ (.int .i64 t116))) := ⟨uB4 HB (Nat.le_trans HL.out GB17.out) (IsS115.ge HI0.out) GE101.out GE107.out⟩
     (try clear HO105)
     (try clear HO115)
     (try clear BK101)
     (try clear BK107)
     (try clear HI0)
     (try clear HK)
     (try clear HB)
     generalize (w16.setCell ⟨go17, (t108 : Int).toNat * 5 + 1, none⟩ (.int .i64 t116)) = w18 at n0_ n1_ n2_ n3_ n4_ n5_ n6_ ⊢
     have HO105 := n0_
     have HO115 := n1_
     have BK101 := n2_
     have BK107 := n3_
     have HI0 := n4_
     have HK := n5_
     have HB := n6_
     clear n0_ n1_ n2_ n3_ n4_ n5_ n6_
     have hcz19_0 : w18.cell? ⟨gb107, 0, none⟩ = some (.int .i64 t102) := (blk_cell BK107.out 0).trans rfl
     have hcz19_1 : w18.cell? ⟨gb107, 1, none⟩ = some (.slice (some ⟨go17, 0, none⟩) t103.length co9) := (blk_cell BK107.out 1).trans rfl
     have hfz19_0 := blk_frozen BK107.out 0
     have hfz19_1 := blk_frozen BK107.out 1
     have hnb20 := NB101_0.out
     have hnc20 := NB0_101.out
     have hcz21_0 : w18.cell? ⟨gb101, 0, none⟩ = some (.int .i64 0) := (blk_cell BK101.out 0).trans rfl
     have hcz21_1 : w18.cell? ⟨gb101, 1, none⟩ = some (.slice none 0 0) := (blk_cell BK101.out 1).trans rfl
     have hfz21_0 := blk_frozen BK101.out 0
     have hfz21_1 := blk_frozen BK101.out 1
     try go_wp2
     refine bodyPost_ret (results_cell_row rfl _ _ gb101 25 #[.int .i64 t102, .slice (some ⟨go17, 0, none⟩) t103.length co9] (0, 0) _ rfl (by (with_reducible repeat (first | refine blk_drewN ?_ _ | refine blk_drew ?_ | refine blk_alloc ?_ _)); refine blk_put (cs := #[.int .i64 t102, .slice none 0 0]) ?_ 1 _ rfl; (with_reducible repeat (first | refine blk_drewN ?_ _ | refine blk_drew ?_ | refine blk_alloc ?_ _)); refine blk_put (cs := #[.int .i64 0, .slice none 0 0]) ?_ 0 _ rfl; exact ub BK101) Try.underlying25 rfl (by kernel_rfl)) rfl ?_
     exact ⟨_, by first | rfl | (simp [errW_none, errW_some] <;> rfl) | (simp [*, errW_none, errW_some] <;> rfl), by (with_reducible repeat (first | apply Kd.R_alloc | apply Kd.R_drewN | apply Kd.R_drew)); exact Kd.R_mono (Kd.R_far (p := ⟨gb101, 1, none⟩) (Kd.R_far (p := ⟨gb101, 0, none⟩) (Kd.R_types HO105.out BK101.out (by decide)) (fun _ hk => hk.2) (.int .i64 t102)) (fun _ hk => hk.2) (.slice (some ⟨go17, 0, none⟩) t103.length co9)) (fun _ hk => trivial), by repeat (first | (with_reducible first | exact HI0.out | apply IsS115.alloc | apply IsS115.drewN | apply IsS115.drew | apply IsS115.set_1 | refine IsS115.far ?_ NB0_101.out _ | refine IsS115.far ?_ NB0_107.out _) | exact HI0.out), by repeat (first | (with_reducible first | exact HB.out | apply below_alloc | apply pw_below_drewN | apply below_drew1 | refine below_set ?_ (IsS115.ge HI0.out) | refine below_set ?_ GE101.out | refine below_set ?_ GE107.out) | exact HB.out), by repeat (first | (with_reducible first | exact HK.out | apply KeepBut.set_ | apply keep_drewN | apply keep_drew | apply keep_alloc | refine keep_far ?_ GW101.out _ | refine keep_far ?_ GW107.out _) | exact HK.out)⟩
    ·
     rw [if_neg c15] at H
     exact absurd H (by simp)
   ·
    rw [if_neg c14] at H
    exact absurd H (by simp)
  ·
   rw [if_neg c13] at H
   have c13b0 : (t110 == 0) = false := beq_eq_false_iff_ne.mpr c13
   have c13b1 : (t110 != 0) = true := bne_iff_ne.mpr c13
   by_cases c22 : t110 = 1
   ·
    rw [if_pos c22] at H
    have c22b0 : (t110 == 1) = true := beq_iff_eq.mpr c22
    have c22b1 : (t110 != 1) = false := bne_eq_false_iff_eq.mpr c22
    clear c22
    obtain ⟨y119, hy119⟩ : ∃ y_ : List Int, y_ = (([(-1), 100] : List Int)) := ⟨_, rfl⟩
    replace H : ((spec_l30Rd_one.f k s0_0 t111 y119).bind fun bt122 => (if 0 ≤ t108 then (if t108 < (t103.length : Int) then (some (t102, (t103.set (t108 : Int).toNat (⟨(rd_T33 t103 t108).f0, (rd_T33 t103 t108).f1, bt122.1, (rd_T33 t103 t108).f3, (rd_T33 t103 t108).f4⟩ : S33)), bt122.2)) else (none)) else (none))) = some (r1, r2, r3) := by first | (rw [hy119]; with_reducible exact H) | (have H2_ := (Option.bind_some _ _).symm.trans H; rw [hy119]; with_reducible exact H2_) | (have H2_ := (Option.bind_some _ _).symm.trans H; with_reducible exact H2_) | with_reducible exact H | (rw [hy119]; exact H) | exact H
    have Ny119 := Aside0.mk hy119
    clear hy119
    replace H := Option.bind_eq_some_iff.mp H
    obtain ⟨⟨t122, t123⟩, A230, H⟩ := H
    replace H : (if 0 ≤ t108 then (if t108 < (t103.length : Int) then (some (t102, (t103.set (t108 : Int).toNat (⟨(rd_T33 t103 t108).f0, (rd_T33 t103 t108).f1, t122, (rd_T33 t103 t108).f3, (rd_T33 t103 t108).f4⟩ : S33)), t123)) else (none)) else (none)) = some (r1, r2, r3) := H
    have A23 := Aside0.mk A230
    clear A230
    by_cases c24 : 0 ≤ t108
    ·
     rw [if_pos c24] at H
     have c24b0 : decide (0 ≤ t108) = true := decide_eq_true c24
     clear c24
     by_cases c25 : t108 < (t103.length : Int)
     ·
      rw [if_pos c25] at H
      have c25b0 : decide (t108 < (t103.length : Int)) = true := decide_eq_true c25
      clear c25
      obtain ⟨y124, hy124⟩ : ∃ y_ : List (S33), y_ = (t103.set (t108 : Int).toNat (⟨(rd_T33 t103 t108).f0, (rd_T33 t103 t108).f1, t122, (rd_T33 t103 t108).f3, (rd_T33 t103 t108).f4⟩ : S33)) := ⟨_, rfl⟩
      replace H : (some (t102, y124, t123)) = some (r1, r2, r3) := by first | (rw [hy124]; with_reducible exact H) | (have H2_ := (Option.bind_some _ _).symm.trans H; rw [hy124]; with_reducible exact H2_) | (have H2_ := (Option.bind_some _ _).symm.trans H; with_reducible exact H2_) | with_reducible exact H | (rw [hy124]; exact H) | exact H
      have Ny124 := Aside0.mk hy124
      clear hy124
      simp only [Option.some.injEq, Prod.mk.injEq] at H
      obtain ⟨rfl, rfl, rfl⟩ := H
      try go_wp2
      have n0_ := Aside0.mk (Kd.R_drew HO105.out)
      have n1_ := Aside0.mk (blk_drew BK101.out)
      have n2_ := Aside0.mk (blk_drew BK107.out)
      have n3_ := Aside0.mk (IsS115.drew HI0.out)
      have n4_ := Aside0.mk (keep_drew HK.out)
      have n5_ := Aside0.mk (below_drew1 HB.out)
      clear HO105
      clear BK101
      clear BK107
      clear HI0
      clear HK
      clear HB
      have HO105 := n0_
      have BK101 := n1_
      have BK107 := n2_
      have HI0 := n3_
      have HK := n4_
      have HB := n5_
      clear n0_ n1_ n2_ n3_ n4_ n5_
      refine start_ (n := 9) (S := fun w' => w'.cell? ⟨gb107, 0, none⟩ = some (.int .i64 t102) ∧ w'.cell? ⟨gb107, 1, none⟩ = some (.slice Ao9 t103.length co9)) (ds := [8]) #[false, false, false, false, false, false, false, false, false] (by kernel_rfl) rfl rfl ⟨(blk_cell BK107.out 0).trans rfl, (blk_cell BK107.out 1).trans rfl⟩ (fun hHeld => ?_); refine with_tabW spec_l30AnyNet.tab8 spec_l30AnyNet.bits8 (fun HT_ HW_ => ?_)
      generalize w11.drew = w12 at HO105 BK101 BK107 HI0 HK HB hHeld ⊢
      refine pure_ (i := 0) (N := some 36) (v := ?_) (a' := ?_) #[true, false, false, false, false, false, false, false, false] rfl rfl (any_of HT_.out (by kernel_rfl)) (fun _ _ _ h => h) (Or.inl ⟨by rfl, ?_⟩) ?_ ?_
      rotate_left
      ·
       intro w'
       go_simp
       with_reducible rfl
      rotate_left
      ·
       simp only [Act.put, List.setIfInBounds_toArray, List.set_cons_zero, List.set_cons_succ, i64_w, i32_w]
       rfl
      refine pure_ (i := 2) (N := some 38) (v := ?_) (a' := ?_) #[true, false, true, false, false, false, false, false, false] rfl rfl (any_of HT_.out (by kernel_rfl)) (fun _ _ _ h => h) (Or.inl ⟨by rfl, ?_⟩) ?_ ?_
      rotate_left
      ·
       intro w'
       go_simp
       with_reducible rfl
      rotate_left
      ·
       simp only [Act.put, List.setIfInBounds_toArray, List.set_cons_zero, List.set_cons_succ, i64_w, i32_w]
       rfl
      refine pure_ (i := 3) (N := some 39) (v := ?_) (a' := ?_) #[true, false, true, true, false, false, false, false, false] rfl rfl (any_of HT_.out (by kernel_rfl)) (fun _ _ _ h => h) (Or.inl ⟨by rfl, ?_⟩) ?_ ?_
      rotate_left
      ·
       intro w'
       go_simp
       with_reducible rfl
      rotate_left
      ·
       simp only [Act.put, List.setIfInBounds_toArray, List.set_cons_zero, List.set_cons_succ, i64_w, i32_w]
       rfl
      refine take_ (i := 1) (N := some 37) (v := ?_) (a' := ?_) #[true, true, true, true, false, false, false, false, false] rfl rfl (take_ofW HT_.out HW_.out (by kernel_rfl)) (fun _ _ _ h => h) (Or.inl ⟨by rfl, ?_⟩) hHeld ?_ ?_
      rotate_left
      ·
       rintro w' ⟨s0, s1⟩
       go_simp
       with_reducible rfl
      rotate_left
      ·
       simp only [Act.put, List.setIfInBounds_toArray, List.set_cons_zero, List.set_cons_succ, i64_w, i32_w]
       rfl
      refine one_ (i := 4) (N := some 40) #[true, true, true, true, true, false, false, false, false] rfl rfl (one_of HT_.out (by kernel_rfl)) (by decide) (fun K hK => ?_)
      refine Kd.R_lit_step (Kd.int .i64) _ 3 ?hg (N := 40) ?hd (xs := ([(-1), 100] : List Int)) (inner := [.int .i64 (-1), .int .i64 100]) (ok := fun _ => True) (okp := fun _ => True) ?hr ?hp (fun _ hk => hk) trivial (Below.refl _ _) (Nat.le_refl _) (by simp) ?_; (case hd => rfl); (case hg => rfl); (case hr => first | (go_simp; done) | (go_simp; rfl)); (case hp => exact (Reps.one (show Kd.M (Kd.int .i64) _ _ _ (-1) [.int .i64 (-1)] from rfl) (Reps.one (show Kd.M (Kd.int .i64) _ _ _ 100 [.int .i64 100] from rfl) (Reps.none _ _))))
      intro v120 w13 ho14 hb hg_ hnew_
      clear hg_ hnew_
      (first | rw [← Ny119.out] at ho14 | (simp only [Int.reduceToNat] at ho14; rw [← Ny119.out] at ho14))
      have n0_ := Aside0.mk (Kd.R_below (ur HO105) hb)
      have n1_ := Aside0.mk (Kd.R_lower ho14 (keep_size (w := w) (g := g) (row := none) (uK2 HK GW101.out GW107.out)))
      have n2_ := Aside0.mk (IsS115.below (uI2 HI0 NB0_101.out NB0_107.out) hb)
      have n3_ := Aside0.mk (blk_below (g := gb101) (o := .cells #[.int .i64 0, .slice none 0 0] 25 (0, 0)) (ub BK101) hb)
      have n4_ := Aside0.mk (blk_below (g := gb107) (o := .cells #[.int .i64 t102, .slice Ao9 t103.length co9] 25 (0, 0)) (ub BK107) hb)
      have n5_ := Aside0.mk (KeepBut.trans (uK2 HK GW101.out GW107.out) (KeepBut.of_below hb g none) (.inl rfl))
      have n6_ := Aside0.mk (below_step (uB3 HB (IsS115.ge HI0.out) GE101.out GE107.out) hb)
      clear HO105
      clear HI0
      clear BK101
      clear BK107
      clear HK
      clear HB
      have HO105 := n0_
      have HO121 := n1_
      have HI0 := n2_
      have BK101 := n3_
      have BK107 := n4_
      have HK := n5_
      have HB := n6_
      clear n0_ n1_ n2_ n3_ n4_ n5_ n6_
      clear hb ho14
      obtain ⟨Ao15, co15, eo15⟩ := Kd.R_slice HO121.out
      (first | subst eo15 | (injection eo15 with f1_ f2_ f3_; have f4_ := f1_.symm; have f5_ := f3_.symm; clear f1_ f2_ f3_; subst f4_; subst f5_))
      refine hK.out _ _ ⟨(blk_cell BK107.out 0).trans rfl, (blk_cell BK107.out 1).trans rfl⟩ (fun hHeld => ?_)
      clear hK K
      refine norm_ (a' := ?_) ?_ ?_
      rotate_left
      ·
       show Act.put _ (some 40) _ = _
       simp only [Act.put, List.setIfInBounds_toArray, List.set_cons_zero, List.set_cons_succ, i64_w, i32_w]
       rfl
      refine one_ (i := 5) (N := some 41) #[true, true, true, true, true, true, false, false, false] rfl rfl (one_of HT_.out (by kernel_rfl)) (by decide) (fun K hK => ?_)
      refine goes_ Try.func99 (by kernel_rfl) rfl #[.pointer (some ⟨g, 0, none⟩), .slice Ao15 y119.length co15] (by rfl) rfl rfl ul ?_
      with_reducible refine (spec_l30Rd_one.calls k g s0_0 t111 _ _ y119 t122 t123 w0 _ ?side1 ?side2 ?side3 ?side4 ?side5 A23.out).mono ?_
      (case side1 => exact uI2 HI0 NB0_101.out NB0_107.out)
      (case side2 => exact uB3 HB (IsS115.ge HI0.out) GE101.out GE107.out)
      (case side3 => repeat (first | exact (Kd.R_reads' HO121.out).2.2 | (with_reducible refine Kd.C_alloc ?_ _) | (with_reducible refine Kd.C_drewN ?_ _) | (with_reducible refine Kd.C_drew ?_)))
      (case side4 => exact (Kd.R_reads' HO121.out).2.1)
      (case side5 => exact far_slice (IsS115.own_ne HI0.out HO121.out (by decide)))
      rintro e w16 ⟨rfl, hi, hb, hk⟩
      refine ⟨_, rfl, ?_⟩
      have n0_ := Aside0.mk (KeepBut.blk hk (g' := gb101) (o := .cells #[.int .i64 0, .slice none 0 0] 25 (0, 0)) (ub BK101) NB101_0.out (by simp))
      have n1_ := Aside0.mk (Kd.R_mono (Kd.R_keep (IsS115.apart (show IsS115 w0 _ g s0_0 t111 from uI2 HI0 NB0_101.out NB0_107.out) (ur HO105) (by decide)) hk (fun _ h => h.2)) (fun _ h => h.1))
      have n2_ := Aside0.mk (KeepBut.blk hk (g' := gb107) (o := .cells #[.int .i64 t102, .slice Ao9 t103.length co9] 25 (0, 0)) (ub BK107) NB107_0.out (by simp))
      have n3_ := Aside0.mk (Kd.R_mono (Kd.R_keep (IsS115.apart (show IsS115 w0 _ g s0_0 t111 from uI2 HI0 NB0_101.out NB0_107.out) (ur HO121) (by decide)) hk (fun _ h => h.2)) (fun _ h => h.1))
      have n4_ := Aside0.mk (KeepBut.trans (uK2 HK GW101.out GW107.out) hk (.inl rfl))
      have n5_ := Aside0.mk (hb)
      have n6_ := Aside0.mk (hi)
      clear BK101
      clear HO105
      clear BK107
      clear HO121
      clear HK
      clear HB
      clear HI0
      have BK101 := n0_
      have HO105 := n1_
      have BK107 := n2_
      have HO121 := n3_
      have HK := n4_
      have HB := n5_
      have HI0 := n6_
      clear n0_ n1_ n2_ n3_ n4_ n5_ n6_
      (try clear hb)
      (try clear hb2)
      (try clear hk)
      (try clear hi)
      have p26 : 0 ≤ (t108 : Int) := ua
      have q26 : (t108 : Int) < ((t103.length : Int) : Int) := ua
      obtain ⟨go26, co26, eo26, gb26, gl26, cl26, HG26⟩ := Kd.R_form HO105.out (by omega)
      (first | cases eo26 | (injection eo26 with ea_ en_ ec_; (first | subst ea_ | (injection ea_ with ea_; subst ea_)); subst ec_; clear en_))
      have GB26 := Aside0.mk gb26
      have GG26 := Aside0.mk HG26
      clear gb26 gl26 HG26
      obtain ⟨ce26, hcl26, hM26, hcc26, hfr26⟩ := Kd.R_elem HO105.out z33 (t108 : Int) p26 q26
      obtain rfl := k33_openM hM26
      have hx26_0 : World.cell? _ ⟨go26, (t108 : Int).toNat * 5, none⟩ = some (.int .i64 ((rd_T33 t103 t108).f0)) := hcc26 0 _ rfl
      have hx26_1 : World.cell? _ ⟨go26, (t108 : Int).toNat * 5 + 1, none⟩ = some (.int .i64 ((rd_T33 t103 t108).f1)) := hcc26 1 _ rfl
      have hx26_2 : World.cell? _ ⟨go26, (t108 : Int).toNat * 5 + 2, none⟩ = some (.int .i64 ((rd_T33 t103 t108).f2)) := hcc26 2 _ rfl
      have hx26_3 : World.cell? _ ⟨go26, (t108 : Int).toNat * 5 + 3, none⟩ = some (.int .i64 ((rd_T33 t103 t108).f3)) := hcc26 3 _ rfl
      have hx26_4 : World.cell? _ ⟨go26, (t108 : Int).toNat * 5 + 4, none⟩ = some (.int .i64 ((rd_T33 t103 t108).f4)) := hcc26 4 _ rfl
      have hf26_0 : World.frozen? _ ⟨go26, (t108 : Int).toNat * 5, none⟩ = false := hfr26 0
      have hf26_1 : World.frozen? _ ⟨go26, (t108 : Int).toNat * 5 + 1, none⟩ = false := hfr26 1
      have hf26_2 : World.frozen? _ ⟨go26, (t108 : Int).toNat * 5 + 2, none⟩ = false := hfr26 2
      have hf26_3 : World.frozen? _ ⟨go26, (t108 : Int).toNat * 5 + 3, none⟩ = false := hfr26 3
      have hf26_4 : World.frozen? _ ⟨go26, (t108 : Int).toNat * 5 + 4, none⟩ = false := hfr26 4
      clear hcl26 hcc26 hfr26 hM26
      replace p26 := eq_true p26
      replace q26 := eq_true q26
      have HN0_go26 := Aside0.mk (show g ≠ go26 from by have h_ := IsS115.own_ne HI0.out HO105.out (by decide); intro e_; exact h_ (by rw [e_]; rfl))
      obtain ⟨ce17, hcl17, hM17, hcc17, hfr17⟩ := Kd.R_elem HO105.out z33 (t108 : Int) (ua) (by have h_ : (t108 : Int) < ((t103.length : Int) : Int) := ua; first | exact h_ | (have e_ := (Kd.R_reads' HO105.out).1; omega) | simpa using h_)
      obtain rfl := k33_openM hM17
      have HP17 := (Kd.R_seg HO105.out (t108 : Int) (ua) (by have h_ : (t108 : Int) < ((t103.length : Int) : Int) := ua; first | exact h_ | (have e_ := (Kd.R_reads' HO105.out).1; omega) | simpa using h_) (seg := [.int .i64 t122]) (j := 2) hcl17 hcc17 (show 3 ≤ 5 from by decide) (x' := (⟨(rd_T33 t103 t108).f0, (rd_T33 t103 t108).f1, t122, (rd_T33 t103 t108).f3, (rd_T33 t103 t108).f4⟩ : S33)) (k33_mkM _ _ _ (⟨(rd_T33 t103 t108).f0, (rd_T33 t103 t108).f1, t122, (rd_T33 t103 t108).f3, (rd_T33 t103 t108).f4⟩ : S33) ) (fun _ hk => hk)).1
      rw [← Ny124.out] at HP17
      have HQ17 := Aside0.mk HP17
      clear hcl17 hcc17 hfr17 hM17 HP17
      refine hK.out _ _ ⟨(blk_cell BK107.out 0).trans rfl, (blk_cell BK107.out 1).trans rfl⟩ (fun hHeld => ?_)
      clear hK K
      refine norm_ (a' := ?_) ?_ ?_
      rotate_left
      ·
       show Act.put _ (some 41) _ = _
       simp only [Act.put, List.setIfInBounds_toArray, List.set_cons_zero, List.set_cons_succ, i64_w, i32_w]
       rfl
      refine pure_ (i := 6) (N := some 42) (v := ?_) (a' := ?_) #[true, true, true, true, true, true, true, false, false] rfl rfl (any_of HT_.out (by kernel_rfl)) (fun _ _ _ h => h) (Or.inl ⟨by rfl, ?_⟩) ?_ ?_
      rotate_left
      ·
       intro w'
       go_simp
       with_reducible rfl
      rotate_left
      ·
       simp only [Act.put, List.setIfInBounds_toArray, List.set_cons_zero, List.set_cons_succ, i64_w, i32_w]
       rfl
      refine pure_ (i := 7) (N := some 43) (v := ?_) (a' := ?_) #[true, true, true, true, true, true, true, true, false] rfl rfl (any_of HT_.out (by kernel_rfl)) (fun _ _ _ h => h) (Or.inl ⟨by rfl, ?_⟩) ?_ ?_
      rotate_left
      ·
       intro w'
       go_simp
       with_reducible rfl
      rotate_left
      ·
       simp only [Act.put, List.setIfInBounds_toArray, List.set_cons_zero, List.set_cons_succ, i64_w, i32_w]
       rfl
      refine last_ (i := 8) (N := none) #[true, true, true, true, true, true, true, true, true] rfl rfl (one_of HT_.out (by kernel_rfl)) (by decide) (fun K hK => ?_)
      refine skip_ (w1 := ?_) (by rfl) rfl ?_ ?_
      rotate_left
      ·
       go_simp
       rfl
      refine hK.out _ _ ?_
      clear hK K
      refine done_ (done_of HT_.out (by kernel_rfl)) ?_
      have n0_ : Aside0 (Kd.R k33 33 (w16.setCell ⟨go26, (t108 : Int).toNat * 5 + 2, none⟩ (.int .i64 t122)) w.heap.size (fun _ => True) (.slice (some ⟨go26, 0, none⟩) t103.length co9) y124) := ⟨ur HQ17⟩
      have n1_ : Aside0 (Kd.R (Kd.int .i64) 3 (w16.setCell ⟨go26, (t108 : Int).toNat * 5 + 2, none⟩ (.int .i64 t122)) w.heap.size (fun _ => True) (.slice Ao15 y119.length co15) y119) := ⟨by (with_reducible repeat (first | apply Kd.R_alloc | apply Kd.R_drewN | apply Kd.R_drew)); exact Kd.R_mono (Kd.R_far (p := ⟨go26, (t108 : Int).toNat * 5 + 2, none⟩) (Kd.R_types2 HO121.out (Kd.R_typed HO105.out) rfl (by decide)) (fun _ hk => hk.2) (.int .i64 t122)) (fun _ hk => trivial)⟩
      have n2_ : Aside0 ((w16.setCell ⟨go26, (t108 : Int).toNat * 5 + 2, none⟩ (.int .i64 t122)).heap[gb101]? = some (.cells #[.int .i64 0, .slice none 0 0] 25 (0, 0))) := ⟨by (with_reducible repeat (first | refine blk_drewN ?_ _ | refine blk_drew ?_ | refine blk_alloc ?_ _)); refine blk_far ?_ (by have h_ := Kd.R_ne HO105.out BK101.out (by decide); intro e_; exact h_ (by rw [e_]; rfl)) _; exact ub BK101⟩
      have n3_ : Aside0 ((w16.setCell ⟨go26, (t108 : Int).toNat * 5 + 2, none⟩ (.int .i64 t122)).heap[gb107]? = some (.cells #[.int .i64 t102, .slice (some ⟨go26, 0, none⟩) t103.length co9] 25 (0, 0))) := ⟨by (with_reducible repeat (first | refine blk_drewN ?_ _ | refine blk_drew ?_ | refine blk_alloc ?_ _)); refine blk_far ?_ (by have h_ := Kd.R_ne HO105.out BK107.out (by decide); intro e_; exact h_ (by rw [e_]; rfl)) _; exact ub BK107⟩
      have n4_ : Aside0 (IsS115 w0 (w16.setCell ⟨go26, (t108 : Int).toNat * 5 + 2, none⟩ (.int .i64 t122)) g s0_0 t123) := ⟨uI3 HI0 HN0_go26.out NB0_101.out NB0_107.out⟩
      have n5_ : Aside0 (KeepBut w (w16.setCell ⟨go26, (t108 : Int).toNat * 5 + 2, none⟩ (.int .i64 t122)) g none) := ⟨uK3 HK GB26.out GW101.out GW107.out⟩
      have n6_ : Aside0 (Below w0.heap.size w0 (w16.setCell ⟨go26, (t108 : Int).toNat * 5 + 2, none⟩ (.int .i64 t122))) := ⟨uB4 HB (Nat.le_trans HL.out GB26.out) (IsS115.ge HI0.out) GE101.out GE107.out⟩
      (try clear HO105)
      (try clear HO121)
      (try clear BK101)
      (try clear BK107)
      (try clear HI0)
      (try clear HK)
      (try clear HB)
      generalize (w16.setCell ⟨go26, (t108 : Int).toNat * 5 + 2, none⟩ (.int .i64 t122)) = w18 at n0_ n1_ n2_ n3_ n4_ n5_ n6_ ⊢
      have HO105 := n0_
      have HO121 := n1_
      have BK101 := n2_
      have BK107 := n3_
      have HI0 := n4_
      have HK := n5_
      have HB := n6_
      clear n0_ n1_ n2_ n3_ n4_ n5_ n6_
      have hcz19_0 : w18.cell? ⟨gb107, 0, none⟩ = some (.int .i64 t102) := (blk_cell BK107.out 0).trans rfl
      have hcz19_1 : w18.cell? ⟨gb107, 1, none⟩ = some (.slice (some ⟨go26, 0, none⟩) t103.length co9) := (blk_cell BK107.out 1).trans rfl
      have hfz19_0 := blk_frozen BK107.out 0
      have hfz19_1 := blk_frozen BK107.out 1
      have hnb20 := NB101_0.out
      have hnc20 := NB0_101.out
      have hcz21_0 : w18.cell? ⟨gb101, 0, none⟩ = some (.int .i64 0) := (blk_cell BK101.out 0).trans rfl
      have hcz21_1 : w18.cell? ⟨gb101, 1, none⟩ = some (.slice none 0 0) := (blk_cell BK101.out 1).trans rfl
      have hfz21_0 := blk_frozen BK101.out 0
      have hfz21_1 := blk_frozen BK101.out 1
      try go_wp2
      refine bodyPost_ret (results_cell_row rfl _ _ gb101 25 #[.int .i64 t102, .slice (some ⟨go26, 0, none⟩) t103.length co9] (0, 0) _ rfl (by (with_reducible repeat (first | refine blk_drewN ?_ _ | refine blk_drew ?_ | refine blk_alloc ?_ _)); refine blk_put (cs := #[.int .i64 t102, .slice none 0 0]) ?_ 1 _ rfl; (with_reducible repeat (first | refine blk_drewN ?_ _ | refine blk_drew ?_ | refine blk_alloc ?_ _)); refine blk_put (cs := #[.int .i64 0, .slice none 0 0]) ?_ 0 _ rfl; exact ub BK101) Try.underlying25 rfl (by kernel_rfl)) rfl ?_
      exact ⟨_, by first | rfl | (simp [errW_none, errW_some] <;> rfl) | (simp [*, errW_none, errW_some] <;> rfl), by (with_reducible repeat (first | apply Kd.R_alloc | apply Kd.R_drewN | apply Kd.R_drew)); exact Kd.R_mono (Kd.R_far (p := ⟨gb101, 1, none⟩) (Kd.R_far (p := ⟨gb101, 0, none⟩) (Kd.R_types HO105.out BK101.out (by decide)) (fun _ hk => hk.2) (.int .i64 t102)) (fun _ hk => hk.2) (.slice (some ⟨go26, 0, none⟩) t103.length co9)) (fun _ hk => trivial), by repeat (first | (with_reducible first | exact HI0.out | apply IsS115.alloc | apply IsS115.drewN | apply IsS115.drew | apply IsS115.set_1 | refine IsS115.far ?_ NB0_101.out _ | refine IsS115.far ?_ NB0_107.out _) | exact HI0.out), by repeat (first | (with_reducible first | exact HB.out | apply below_alloc | apply pw_below_drewN | apply below_drew1 | refine below_set ?_ (IsS115.ge HI0.out) | refine below_set ?_ GE101.out | refine below_set ?_ GE107.out) | exact HB.out), by repeat (first | (with_reducible first | exact HK.out | apply KeepBut.set_ | apply keep_drewN | apply keep_drew | apply keep_alloc | refine keep_far ?_ GW101.out _ | refine keep_far ?_ GW107.out _) | exact HK.out)⟩
     ·
      rw [if_neg c25] at H
      exact absurd H (by simp)
    ·
     rw [if_neg c24] at H
     exact absurd H (by simp)
   ·
    rw [if_neg c22] at H
    have c22b0 : (t110 == 1) = false := beq_eq_false_iff_ne.mpr c22
    have c22b1 : (t110 != 1) = true := bne_iff_ne.mpr c22
    by_cases c27 : t110 = 2
    ·
     rw [if_pos c27] at H
     have c27b0 : (t110 == 2) = true := beq_iff_eq.mpr c27
     have c27b1 : (t110 != 2) = false := bne_eq_false_iff_eq.mpr c27
     clear c27
     obtain ⟨y125, hy125⟩ : ∃ y_ : List Int, y_ = (([0, 1, 9, 8] : List Int)) := ⟨_, rfl⟩
     replace H : ((spec_l30Rd_one.f k s0_0 t111 y125).bind fun bt128 => (some (bt128.1, t103, bt128.2))) = some (r1, r2, r3) := by first | (rw [hy125]; with_reducible exact H) | (have H2_ := (Option.bind_some _ _).symm.trans H; rw [hy125]; with_reducible exact H2_) | (have H2_ := (Option.bind_some _ _).symm.trans H; with_reducible exact H2_) | with_reducible exact H | (rw [hy125]; exact H) | exact H
     have Ny125 := Aside0.mk hy125
     clear hy125
     replace H := Option.bind_eq_some_iff.mp H
     obtain ⟨⟨t128, t129⟩, A280, H⟩ := H
     replace H : (some (t128, t103, t129)) = some (r1, r2, r3) := H
     have A28 := Aside0.mk A280
     clear A280
     simp only [Option.some.injEq, Prod.mk.injEq] at H
     obtain ⟨rfl, rfl, rfl⟩ := H
     go_wp2_with (first | ((with_reducible refine gate_dst (N := 47) rfl ?_); refine Kd.R_lit (Kd.int .i64) _ 3 ?hg (N := 47) ?hd (xs := ([0, 1, 9, 8] : List Int)) (inner := [.int .i64 0, .int .i64 1, .int .i64 9, .int .i64 8]) (ok := fun _ => True) (okp := fun _ => True) ?hr ?hp (fun _ hk => hk) trivial (Below.refl _ _) (Nat.le_refl _) (by simp) ?_; (case hd => rfl); (case hg => rfl); (case hr => first | (go_simp; done) | (go_simp; rfl)); (case hp => exact (Reps.one (show Kd.M (Kd.int .i64) _ _ _ 0 [.int .i64 0] from rfl) (Reps.one (show Kd.M (Kd.int .i64) _ _ _ 1 [.int .i64 1] from rfl) (Reps.one (show Kd.M (Kd.int .i64) _ _ _ 9 [.int .i64 9] from rfl) (Reps.one (show Kd.M (Kd.int .i64) _ _ _ 8 [.int .i64 8] from rfl) (Reps.none _ _)))))); intro v126 w12 ho13 hb hg_ hnew_; clear hg_ hnew_; (first | rw [← Ny125.out] at ho13 | (simp only [Int.reduceToNat] at ho13; rw [← Ny125.out] at ho13)); have n0_ := Aside0.mk (Kd.R_below (ur HO105) hb); have n1_ := Aside0.mk (Kd.R_lower ho13 (keep_size (w := w) (g := g) (row := none) (uK2 HK GW101.out GW107.out))); have n2_ := Aside0.mk (IsS115.below (uI2 HI0 NB0_101.out NB0_107.out) hb); have n3_ := Aside0.mk (blk_below (g := gb101) (o := .cells #[.int .i64 0, .slice none 0 0] 25 (0, 0)) (ub BK101) hb); have n4_ := Aside0.mk (blk_below (g := gb107) (o := .cells #[.int .i64 t102, .slice Ao9 t103.length co9] 25 (0, 0)) (ub BK107) hb); have n5_ := Aside0.mk (KeepBut.trans (uK2 HK GW101.out GW107.out) (KeepBut.of_below hb g none) (.inl rfl)); have n6_ := Aside0.mk (below_step (uB3 HB (IsS115.ge HI0.out) GE101.out GE107.out) hb); clear HO105; clear HI0; clear BK101; clear BK107; clear HK; clear HB; have HO105 := n0_; have HO127 := n1_; have HI0 := n2_; have BK101 := n3_; have BK107 := n4_; have HK := n5_; have HB := n6_; clear n0_ n1_ n2_ n3_ n4_ n5_ n6_; clear hb ho13; obtain ⟨Ao14, co14, eo14⟩ := Kd.R_slice HO127.out; subst eo14) | ((with_reducible refine gate_callee (f := 99) rfl ?_); refine goesL_ (some 48) rfl rfl Try.func99 (by kernel_rfl) rfl #[.pointer (some ⟨g, 0, none⟩), .slice Ao14 y125.length co14] rfl ul ?_; (with_reducible refine (spec_l30Rd_one.calls k g s0_0 t111 _ _ y125 t128 t129 w0 _ ?side1 ?side2 ?side3 ?side4 ?side5 A28.out).mono ?_); (case side1 => exact uI2 HI0 NB0_101.out NB0_107.out); (case side2 => exact uB3 HB (IsS115.ge HI0.out) GE101.out GE107.out); (case side3 => repeat (first | exact (Kd.R_reads' HO127.out).2.2 | (with_reducible refine Kd.C_alloc ?_ _) | (with_reducible refine Kd.C_drewN ?_ _) | (with_reducible refine Kd.C_drew ?_))); (case side4 => exact (Kd.R_reads' HO127.out).2.1); (case side5 => exact far_slice (IsS115.own_ne HI0.out HO127.out (by decide))); rintro e w15 ⟨rfl, hi, hb, hk⟩; refine ⟨_, rfl, ?_⟩; have n0_ := Aside0.mk (KeepBut.blk hk (g' := gb101) (o := .cells #[.int .i64 0, .slice none 0 0] 25 (0, 0)) (ub BK101) NB101_0.out (by simp)); have n1_ := Aside0.mk (Kd.R_mono (Kd.R_keep (IsS115.apart (show IsS115 w0 _ g s0_0 t111 from uI2 HI0 NB0_101.out NB0_107.out) (ur HO105) (by decide)) hk (fun _ h => h.2)) (fun _ h => h.1)); have n2_ := Aside0.mk (KeepBut.blk hk (g' := gb107) (o := .cells #[.int .i64 t102, .slice Ao9 t103.length co9] 25 (0, 0)) (ub BK107) NB107_0.out (by simp)); have n3_ := Aside0.mk (Kd.R_mono (Kd.R_keep (IsS115.apart (show IsS115 w0 _ g s0_0 t111 from uI2 HI0 NB0_101.out NB0_107.out) (ur HO127) (by decide)) hk (fun _ h => h.2)) (fun _ h => h.1)); have n4_ := Aside0.mk (KeepBut.trans (uK2 HK GW101.out GW107.out) hk (.inl rfl)); have n5_ := Aside0.mk (hb); have n6_ := Aside0.mk (hi); clear BK101; clear HO105; clear BK107; clear HO127; clear HK; clear HB; clear HI0; have BK101 := n0_; have HO105 := n1_; have BK107 := n2_; have HO127 := n3_; have HK := n4_; have HB := n5_; have HI0 := n6_; clear n0_ n1_ n2_ n3_ n4_ n5_ n6_; (try clear hb); (try clear hb2); (try clear hk); (try clear hi); have hcz16_0 : w15.cell? ⟨gb107, 0, none⟩ = some (.int .i64 t102) := (blk_cell BK107.out 0).trans rfl; have hcz16_1 : w15.cell? ⟨gb107, 1, none⟩ = some (.slice Ao9 t103.length co9) := (blk_cell BK107.out 1).trans rfl; have hfz16_0 := blk_frozen BK107.out 0; have hfz16_1 := blk_frozen BK107.out 1; have hnb17 := NB101_0.out; have hnc17 := NB0_101.out; have hcz18_0 : w15.cell? ⟨gb101, 0, none⟩ = some (.int .i64 0) := (blk_cell BK101.out 0).trans rfl; have hcz18_1 : w15.cell? ⟨gb101, 1, none⟩ = some (.slice none 0 0) := (blk_cell BK101.out 1).trans rfl; have hfz18_0 := blk_frozen BK101.out 0; have hfz18_1 := blk_frozen BK101.out 1))
     refine bodyPost_ret (results_cell_row rfl _ _ gb101 25 #[.int .i64 t128, .slice Ao9 t103.length co9] (0, 0) _ rfl (by (with_reducible repeat (first | refine blk_drewN ?_ _ | refine blk_drew ?_ | refine blk_alloc ?_ _)); refine blk_put (cs := #[.int .i64 t128, .slice none 0 0]) ?_ 1 _ rfl; (with_reducible repeat (first | refine blk_drewN ?_ _ | refine blk_drew ?_ | refine blk_alloc ?_ _)); refine blk_put (cs := #[.int .i64 0, .slice none 0 0]) ?_ 0 _ rfl; (with_reducible repeat (first | refine blk_drewN ?_ _ | refine blk_drew ?_ | refine blk_alloc ?_ _)); refine blk_far ?_ NB101_107.out _; exact ub BK101) Try.underlying25 rfl (by kernel_rfl)) rfl ?_
     exact ⟨_, by first | rfl | (simp [errW_none, errW_some] <;> rfl) | (simp [*, errW_none, errW_some] <;> rfl), by (with_reducible repeat (first | apply Kd.R_alloc | apply Kd.R_drewN | apply Kd.R_drew)); exact Kd.R_mono (Kd.R_far (p := ⟨gb101, 1, none⟩) (Kd.R_far (p := ⟨gb101, 0, none⟩) (Kd.R_far (p := ⟨gb107, 0, none⟩) (Kd.R_types (Kd.R_types HO105.out BK107.out (by decide)) BK101.out (by decide)) (fun _ hk => hk.1.2) (.int .i64 t128)) (fun _ hk => hk.2) (.int .i64 t128)) (fun _ hk => hk.2) (.slice Ao9 t103.length co9)) (fun _ hk => trivial), by repeat (first | (with_reducible first | exact HI0.out | apply IsS115.alloc | apply IsS115.drewN | apply IsS115.drew | apply IsS115.set_1 | refine IsS115.far ?_ NB0_101.out _ | refine IsS115.far ?_ NB0_107.out _) | exact HI0.out), by repeat (first | (with_reducible first | exact HB.out | apply below_alloc | apply pw_below_drewN | apply below_drew1 | refine below_set ?_ (IsS115.ge HI0.out) | refine below_set ?_ GE101.out | refine below_set ?_ GE107.out) | exact HB.out), by repeat (first | (with_reducible first | exact HK.out | apply KeepBut.set_ | apply keep_drewN | apply keep_drew | apply keep_alloc | refine keep_far ?_ GW101.out _ | refine keep_far ?_ GW107.out _) | exact HK.out)⟩
    ·
     rw [if_neg c27] at H
     have c27b0 : (t110 == 2) = false := beq_eq_false_iff_ne.mpr c27
     have c27b1 : (t110 != 2) = true := bne_iff_ne.mpr c27
     simp only [Option.some.injEq, Prod.mk.injEq] at H
     obtain ⟨rfl, rfl, rfl⟩ := H
     have hcz12_0 : w11.cell? ⟨gb107, 0, none⟩ = some (.int .i64 t102) := (blk_cell BK107.out 0).trans rfl
     have hcz12_1 : w11.cell? ⟨gb107, 1, none⟩ = some (.slice Ao9 t103.length co9) := (blk_cell BK107.out 1).trans rfl
     have hfz12_0 := blk_frozen BK107.out 0
     have hfz12_1 := blk_frozen BK107.out 1
     have hnb13 := NB101_0.out
     have hnc13 := NB0_101.out
     have hcz14_0 : w11.cell? ⟨gb101, 0, none⟩ = some (.int .i64 0) := (blk_cell BK101.out 0).trans rfl
     have hcz14_1 : w11.cell? ⟨gb101, 1, none⟩ = some (.slice none 0 0) := (blk_cell BK101.out 1).trans rfl
     have hfz14_0 := blk_frozen BK101.out 0
     have hfz14_1 := blk_frozen BK101.out 1
     try go_wp2
     refine bodyPost_ret (results_cell_row rfl _ _ gb101 25 #[.int .i64 t102, .slice Ao9 t103.length co9] (0, 0) _ rfl (by (with_reducible repeat (first | refine blk_drewN ?_ _ | refine blk_drew ?_ | refine blk_alloc ?_ _)); refine blk_put (cs := #[.int .i64 t102, .slice none 0 0]) ?_ 1 _ rfl; (with_reducible repeat (first | refine blk_drewN ?_ _ | refine blk_drew ?_ | refine blk_alloc ?_ _)); refine blk_put (cs := #[.int .i64 0, .slice none 0 0]) ?_ 0 _ rfl; exact ub BK101) Try.underlying25 rfl (by kernel_rfl)) rfl ?_
     exact ⟨_, by first | rfl | (simp [errW_none, errW_some] <;> rfl) | (simp [*, errW_none, errW_some] <;> rfl), by (with_reducible repeat (first | apply Kd.R_alloc | apply Kd.R_drewN | apply Kd.R_drew)); exact Kd.R_mono (Kd.R_far (p := ⟨gb101, 1, none⟩) (Kd.R_far (p := ⟨gb101, 0, none⟩) (Kd.R_types HO105.out BK101.out (by decide)) (fun _ hk => hk.2) (.int .i64 t102)) (fun _ hk => hk.2) (.slice Ao9 t103.length co9)) (fun _ hk => trivial), by repeat (first | (with_reducible first | exact HI0.out | apply IsS115.alloc | apply IsS115.drewN | apply IsS115.drew | apply IsS115.set_1 | refine IsS115.far ?_ NB0_101.out _ | refine IsS115.far ?_ NB0_107.out _) | exact HI0.out), by repeat (first | (with_reducible first | exact HB.out | apply below_alloc | apply pw_below_drewN | apply below_drew1 | refine below_set ?_ (IsS115.ge HI0.out) | refine below_set ?_ GE101.out | refine below_set ?_ GE107.out) | exact HB.out), by repeat (first | (with_reducible first | exact HK.out | apply KeepBut.set_ | apply keep_drewN | apply keep_drew | apply keep_alloc | refine keep_far ?_ GW101.out _ | refine keep_far ?_ GW107.out _) | exact HK.out)⟩
 ·
  rw [if_neg c10] at H
  have c10b0 : decide (0 < (t103.length : Int)) = false := decide_eq_false c10
  have c10b1 : decide (0 < t103.length) = false := decide_eq_false (by omega)
  clear c10
  simp only [Option.some.injEq, Prod.mk.injEq] at H
  obtain ⟨rfl, rfl, rfl⟩ := H
  have hnb10 := NB101_0.out
  have hnc10 := NB0_101.out
  have hcz11_0 : w5.cell? ⟨gb101, 0, none⟩ = some (.int .i64 0) := (blk_cell BK101.out 0).trans rfl
  have hcz11_1 : w5.cell? ⟨gb101, 1, none⟩ = some (.slice none 0 0) := (blk_cell BK101.out 1).trans rfl
  have hfz11_0 := blk_frozen BK101.out 0
  have hfz11_1 := blk_frozen BK101.out 1
  try go_wp2
  refine bodyPost_ret (results_cell_row rfl _ _ gb101 25 #[.int .i64 t102, .slice Ao9 t103.length co9] (0, 0) _ rfl (by (with_reducible repeat (first | refine blk_drewN ?_ _ | refine blk_drew ?_ | refine blk_alloc ?_ _)); refine blk_put (cs := #[.int .i64 t102, .slice none 0 0]) ?_ 1 _ rfl; (with_reducible repeat (first | refine blk_drewN ?_ _ | refine blk_drew ?_ | refine blk_alloc ?_ _)); refine blk_put (cs := #[.int .i64 0, .slice none 0 0]) ?_ 0 _ rfl; (with_reducible repeat (first | refine blk_drewN ?_ _ | refine blk_drew ?_ | refine blk_alloc ?_ _)); refine blk_far ?_ NB101_107.out _; (with_reducible repeat (first | refine blk_drewN ?_ _ | refine blk_drew ?_ | refine blk_alloc ?_ _)); refine blk_far ?_ NB101_107.out _; exact ub BK101) Try.underlying25 rfl (by kernel_rfl)) rfl ?_
  exact ⟨_, by first | rfl | (simp [errW_none, errW_some] <;> rfl) | (simp [*, errW_none, errW_some] <;> rfl), by (with_reducible repeat (first | apply Kd.R_alloc | apply Kd.R_drewN | apply Kd.R_drew)); exact Kd.R_mono (Kd.R_far (p := ⟨gb101, 1, none⟩) (Kd.R_far (p := ⟨gb101, 0, none⟩) (Kd.R_far (p := ⟨gb107, 1, none⟩) (Kd.R_far (p := ⟨gb107, 0, none⟩) (Kd.R_types (Kd.R_types HO105.out BK107.out (by decide)) BK101.out (by decide)) (fun _ hk => hk.1.2) (.int .i64 t102)) (fun _ hk => hk.1.2) (.slice Ao9 t103.length co9)) (fun _ hk => hk.2) (.int .i64 t102)) (fun _ hk => hk.2) (.slice Ao9 t103.length co9)) (fun _ hk => trivial), by repeat (first | (with_reducible first | exact HI0.out | apply IsS115.alloc | apply IsS115.drewN | apply IsS115.drew | apply IsS115.set_1 | refine IsS115.far ?_ NB0_101.out _ | refine IsS115.far ?_ NB0_107.out _) | exact HI0.out), by repeat (first | (with_reducible first | exact HB.out | apply below_alloc | apply pw_below_drewN | apply below_drew1 | refine below_set ?_ (IsS115.ge HI0.out) | refine below_set ?_ GE101.out | refine below_set ?_ GE107.out) | exact HB.out), by repeat (first | (with_reducible first | exact HK.out | apply KeepBut.set_ | apply keep_drewN | apply keep_drew | apply keep_alloc | refine keep_far ?_ GW101.out _ | refine keep_far ?_ GW107.out _) | exact HK.out)⟩

end Go.Proofs.Ytjmpngfgfddpaaa.P
