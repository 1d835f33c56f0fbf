-- written for this claim by a program (wip/gen/myprint.py over the print tool). Not trusted: Lean checks it.
import Derived.Test.YtblpdfgplifccaaPx0
import Derived.Test.YtblpdfgplifccaaHUp
import Derived.Test.YtblpdfgplifccaaPFSpecL10Edge
import Derived.Test.YtblpdfgplifccaaPFSpecL3All
import Derived.Test.YtblpdfgplifccaaPFSpecL10In
import Derived.Test.YtblpdfgplifccaaPFSpecL10Over
import Derived.Test.YtblpdfgplifccaaGDist
namespace Go.Proofs.Ytblpdfgplifccaa.P
open Go.RowKit Go.Proofs.YtblpdfgplifccaaV.PrintWords Go.Proofs.YtblpdfgplifccaaV.PrintLast
set_option linter.unusedVariables false
set_option linter.unusedSimpArgs false

/-! ### spec_l10Best: function 95 -/
mutual
def spec_l10Best.l0 : Nat → List Int → Int → Int → List (List Int) → List Int → List Int → List Int → Int → Int → List (S33) → Option (Int)
 | 0, _, _, _, _, _, _, _, _, _, _ => none
 | k + 1, x1, x2, x3, x9, x10, x11, x12, x13, x102000, x102001 => if x13 < x102000 then (if 0 ≤ x13 then (if x13 < (x12.length : Int) then ((some (x12.set (x13 : Int).toNat 99999 : List Int)).bind fun y128 => (if x13 < (x1.length : Int) then (if 0 ≤ x2 then (if x2 < (x1.length : Int) then (if (rd x1 x13) = (rd x1 x2) then ((spec_l10Edge.f k x102000 x102001 x1 x13).bind fun t131 => (if t131 = true then (if x13 < (x10.length : Int) then (spec_l10Best.l0 k x1 x2 x3 x9 x10 x11 (y128.set (x13 : Int).toNat (rd x10 x13)) (wrap64 (x13 + 1)) x102000 x102001) else (none)) else (spec_l10Best.l0 k x1 x2 x3 x9 x10 x11 y128 (wrap64 (x13 + 1)) x102000 x102001))) else (spec_l10Best.l0 k x1 x2 x3 x9 x10 x11 y128 (wrap64 (x13 + 1)) x102000 x102001)) else (none)) else (none)) else (none))) else (none)) else (none)) else (spec_l10Best.l1 k x1 x2 x3 x9 x10 x11 x12 0 x102000 x102001)
def spec_l10Best.l1 : Nat → List Int → Int → Int → List (List Int) → List Int → List Int → List Int → Int → Int → List (S33) → Option (Int)
 | 0, _, _, _, _, _, _, _, _, _, _ => none
 | k + 1, x1, x2, x3, x9, x10, x11, x12, x14, x102000, x102001 => if x14 < x102000 then (spec_l10Best.l2 k x1 x2 x3 x9 x10 x11 x12 x14 0 x102000 x102001) else (if 0 ≤ x2 then (if x2 < (x1.length : Int) then (if 0 ≤ x3 then (if x3 < (x1.length : Int) then (if (rd x1 x2) = (rd x1 x3) then (if x3 < (x10.length : Int) then (spec_l10Best.j4 k x1 x3 x11 x12 (rd x10 x3) x102000 x102001) else (none)) else (spec_l10Best.j4 k x1 x3 x11 x12 99999 x102000 x102001)) else (none)) else (none)) else (none)) else (none))
def spec_l10Best.l2 : Nat → List Int → Int → Int → List (List Int) → List Int → List Int → List Int → Int → Int → Int → List (S33) → Option (Int)
 | 0, _, _, _, _, _, _, _, _, _, _, _ => none
 | k + 1, x1, x2, x3, x9, x10, x11, x12, x14, x15, x102000, x102001 => if x15 < x102000 then (spec_l10Best.l3 k x1 x2 x3 x9 x10 x11 x12 x14 x15 0 x102000 x102001) else (spec_l10Best.l1 k x1 x2 x3 x9 x10 x11 x12 (wrap64 (x14 + 1)) x102000 x102001)
def spec_l10Best.l3 : Nat → List Int → Int → Int → List (List Int) → List Int → List Int → List Int → Int → Int → Int → Int → List (S33) → Option (Int)
 | 0, _, _, _, _, _, _, _, _, _, _, _, _ => none
 | k + 1, x1, x2, x3, x9, x10, x11, x12, x14, x15, x16, x102000, x102001 => if x16 < x102000 then (if 0 ≤ x15 then (if x15 < (x12.length : Int) then (if (rd x12 x15) < 99999 then (if x15 < (x9.length : Int) then (if 0 ≤ x16 then (if x16 < ((rd_L5 x9 x15).length : Int) then (if (rd (rd_L5 x9 x15) x16) < 99999 then (if x16 < (x12.length : Int) then (if (wrap64 ((rd x12 x15) + (rd (rd_L5 x9 x15) x16))) < (rd x12 x16) then (spec_l10Best.l3 k x1 x2 x3 x9 x10 x11 (x12.set (x16 : Int).toNat (wrap64 ((rd x12 x15) + (rd (rd_L5 x9 x15) x16)))) x14 x15 (wrap64 (x16 + 1)) x102000 x102001) else (spec_l10Best.l3 k x1 x2 x3 x9 x10 x11 x12 x14 x15 (wrap64 (x16 + 1)) x102000 x102001)) else (none)) else (spec_l10Best.l3 k x1 x2 x3 x9 x10 x11 x12 x14 x15 (wrap64 (x16 + 1)) x102000 x102001)) else (none)) else (none)) else (none)) else (spec_l10Best.l3 k x1 x2 x3 x9 x10 x11 x12 x14 x15 (wrap64 (x16 + 1)) x102000 x102001)) else (none)) else (none)) else (spec_l10Best.l2 k x1 x2 x3 x9 x10 x11 x12 x14 (wrap64 (x15 + 1)) x102000 x102001)
def spec_l10Best.j4 : Nat → List Int → Int → List Int → List Int → Int → Int → List (S33) → Option (Int)
 | 0, _, _, _, _, _, _, _ => none
 | k + 1, x1, x3, x11, x12, x17, x102000, x102001 => spec_l10Best.l4 k x1 x3 x11 x12 x17 0 x102000 x102001
def spec_l10Best.l4 : Nat → List Int → Int → List Int → List Int → Int → Int → Int → List (S33) → Option (Int)
 | 0, _, _, _, _, _, _, _, _ => none
 | k + 1, x1, x3, x11, x12, x17, x18, x102000, x102001 => if x18 < x102000 then (if 0 ≤ x18 then (if x18 < (x1.length : Int) then (if 0 ≤ x3 then (if x3 < (x1.length : Int) then (if (rd x1 x18) = (rd x1 x3) then (if x18 < (x12.length : Int) then (if (rd x12 x18) < 99999 then (if x18 < (x11.length : Int) then (if (rd x11 x18) < 99999 then (if (wrap64 ((rd x12 x18) + (rd x11 x18))) < x17 then (spec_l10Best.l4 k x1 x3 x11 x12 (wrap64 ((rd x12 x18) + (rd x11 x18))) (wrap64 (x18 + 1)) x102000 x102001) else (spec_l10Best.l4 k x1 x3 x11 x12 x17 (wrap64 (x18 + 1)) x102000 x102001)) else (spec_l10Best.l4 k x1 x3 x11 x12 x17 (wrap64 (x18 + 1)) x102000 x102001)) else (none)) else (spec_l10Best.l4 k x1 x3 x11 x12 x17 (wrap64 (x18 + 1)) x102000 x102001)) else (none)) else (spec_l10Best.l4 k x1 x3 x11 x12 x17 (wrap64 (x18 + 1)) x102000 x102001)) else (none)) else (none)) else (none)) else (none)) else (some x17)
end
def spec_l10Best.f (k : Nat) (a0_0 : Int) (l0_1 : List (S33)) (l1 : List Int) (a2 : Int) (a3 : Int) : Option (Int) := (spec_l10Over.f k a0_0 l0_1 l1).bind fun t102 => (if 0 ≤ a2 then (if a2 < (l1.length : Int) then ((spec_l10In.f k a0_0 l0_1 l1 (rd l1 a2)).bind fun bt106 => ((spec_l3All.f k bt106.1 bt106.2 a2).bind fun t110 => (if 0 ≤ a3 then (if a3 < (l1.length : Int) then ((spec_l10In.f k a0_0 l0_1 l1 (rd l1 a3)).bind fun bt114 => ((spec_l1Back.f k bt114.1 bt114.2).bind fun bt118 => ((spec_l3All.f k bt118.1 bt118.2 a3).bind fun t122 => (if 0 ≤ a0_0 then (if (a0_0 : Int).toNat ≤ 35184372088832 then (spec_l10Best.l0 k l1 a2 a3 t102 t110 t122 (List.replicate (a0_0 : Int).toNat 0) 0 a0_0 l0_1) else (none)) else (none))))) else (none)) else (none)))) else (none)) else (none))
def spec_l10Best.T2 : Bool × List (List Nat × List Nat) := (true, [([], []), ([], []), ([], []), ([], []), ([2, 3], [2, 3]), ([4], [4]), ([0, 1, 5], [0, 1, 5]), ([], []), ([6, 7, 6], [6, 7]), ([8, 8, 0, 1, 2, 3, 4, 5, 6, 7, 8], [8])])
def spec_l10Best.B2 : List Nat := [0, 0, 0, 0, 12, 28, 63, 0, 255, 511]
theorem spec_l10Best.tab2 : rtab .any (opsOf Try.f95 2) = spec_l10Best.T2 := by kernel_rfl
theorem spec_l10Best.bits2 : waitsOk spec_l10Best.T2.2 spec_l10Best.B2 = true := by kernel_rfl
def spec_l10Best.T3 : Bool × List (List Nat × List Nat) := (true, [([], []), ([], []), ([], []), ([], []), ([2, 3], [2, 3]), ([4], [4]), ([0, 1, 5], [0, 1, 5]), ([6, 6], [6]), ([], []), ([7, 8, 7], [7, 8]), ([9, 9, 0, 1, 2, 3, 4, 5, 6, 7, 8, 9], [9])])
def spec_l10Best.B3 : List Nat := [0, 0, 0, 0, 12, 28, 63, 127, 0, 511, 1023]
theorem spec_l10Best.tab3 : rtab .any (opsOf Try.f95 3) = spec_l10Best.T3 := by kernel_rfl
theorem spec_l10Best.bits3 : waitsOk spec_l10Best.T3.2 spec_l10Best.B3 = true := by kernel_rfl
def spec_l10Best.T9 : Bool × List (List Nat × List Nat) := (true, [([], []), ([], []), ([0, 1], [0, 1]), ([2], [2]), ([], []), ([], []), ([4, 5], [4, 5]), ([6], [6]), ([3, 7], [3, 7]), ([8], [8]), ([9], [9]), ([9], [9]), ([9], [9]), ([10, 11, 12, 9, 9], [9, 10, 11, 12]), ([9, 13], [9, 13])])
def spec_l10Best.B9 : List Nat := [0, 0, 3, 7, 0, 0, 48, 112, 255, 511, 1023, 1023, 1023, 8191, 16383]
theorem spec_l10Best.tab9 : rtab .any (opsOf Try.f95 9) = spec_l10Best.T9 := by kernel_rfl
theorem spec_l10Best.bits9 : waitsOk spec_l10Best.T9.2 spec_l10Best.B9 = true := by kernel_rfl
def spec_l10Best.T20 : Bool × List (List Nat × List Nat) := (true, [([], []), ([], []), ([0, 1], [0, 1]), ([2], [2]), ([3], [3]), ([4], [4]), ([5], [5]), ([5], [5]), ([6, 7, 5], [5, 6, 7]), ([8, 5], [5, 8]), ([5], [5]), ([9, 10, 5], [5, 9, 10]), ([11, 5], [5, 11]), ([12, 5], [5, 12]), ([5, 13], [5, 13]), ([14, 5], [14]), ([15], [15]), ([15], [15]), ([16, 17, 15], [15, 16, 17]), ([18, 15], [15, 18]), ([15], [15]), ([15], [15]), ([20, 21, 15], [15, 20, 21]), ([22, 15], [15, 22]), ([15], [15]), ([23, 24, 15], [15, 23, 24]), ([25, 15], [15, 25]), ([19, 26, 15], [15, 19, 26]), ([15], [15]), ([15], [15]), ([28, 29, 15], [15, 28, 29]), ([30, 15], [15, 30]), ([27, 31, 15], [15, 27, 31]), ([15, 32], [15, 32])])
def spec_l10Best.B20 : List Nat := [0, 0, 3, 7, 15, 31, 63, 63, 255, 511, 63, 2047, 4095, 8191, 16383, 32767, 65535, 65535, 262143, 524287, 65535, 65535, 3211263, 7405567, 65535, 32571391, 66125823, 134217727, 65535, 65535, 805371903, 1879113727, 4294967295, 8589934591]
theorem spec_l10Best.tab20 : rtab .any (opsOf Try.f95 20) = spec_l10Best.T20 := by kernel_rfl
theorem spec_l10Best.bits20 : waitsOk spec_l10Best.T20.2 spec_l10Best.B20 = true := by kernel_rfl
def spec_l10Best.T21 : Bool × List (List Nat × List Nat) := (true, [([], []), ([], []), ([], []), ([], []), ([2, 3], [2, 3]), ([4], [4]), ([], []), ([], []), ([6, 7], [6, 7]), ([8], [8]), ([], []), ([9, 10], [9, 10]), ([11], [11]), ([5, 12], [5, 12]), ([0, 1, 0, 1, 2, 3, 4, 5, 6, 7, 8, 9, 10, 11, 12, 13], [0, 1]), ([14, 13, 0, 1, 2, 3, 4, 5, 6, 7, 8, 9, 10, 11, 12, 13], [13, 14])])
def spec_l10Best.B21 : List Nat := [0, 0, 0, 0, 12, 28, 0, 0, 192, 448, 0, 1984, 4032, 8188, 16383, 32767]
theorem spec_l10Best.tab21 : rtab .any (opsOf Try.f95 21) = spec_l10Best.T21 := by kernel_rfl
theorem spec_l10Best.bits21 : waitsOk spec_l10Best.T21.2 spec_l10Best.B21 = true := by kernel_rfl
def spec_l10Best.T23 : Bool × List (List Nat × List Nat) := (true, [([], []), ([], []), ([0, 1], [0, 1]), ([2], [2]), ([], []), ([], []), ([4, 5], [4, 5]), ([6], [6]), ([3, 7], [3, 7])])
def spec_l10Best.B23 : List Nat := [0, 0, 3, 7, 0, 0, 48, 112, 255]
theorem spec_l10Best.tab23 : rtab .any (opsOf Try.f95 23) = spec_l10Best.T23 := by kernel_rfl
theorem spec_l10Best.bits23 : waitsOk spec_l10Best.T23.2 spec_l10Best.B23 = true := by kernel_rfl
def spec_l10Best.T28 : Bool × List (List Nat × List Nat) := (true, [([], []), ([], []), ([0, 1], [0, 1]), ([2], [2]), ([], []), ([], []), ([4, 5], [4, 5]), ([6], [6]), ([3, 7], [3, 7]), ([8], [8]), ([9], [9]), ([9], [9]), ([10, 11, 9], [9, 10, 11]), ([12, 9], [9, 12]), ([13, 9], [9, 13]), ([9, 14], [9, 14]), ([15, 9], [15]), ([16], [16]), ([16], [16]), ([17, 18, 16], [16, 17, 18]), ([19, 16], [16, 19]), ([20, 16], [16, 20]), ([16, 21], [16, 21]), ([22, 16], [22]), ([23], [23]), ([23], [23]), ([24, 25, 23], [23, 24, 25]), ([26, 23], [23, 26]), ([23], [23]), ([23], [23]), ([28, 29, 23], [23, 28, 29]), ([30, 23], [23, 30]), ([27, 31, 23], [23, 27, 31]), ([23], [23]), ([32, 33, 23], [23, 32, 33]), ([23, 34], [23, 34])])
def spec_l10Best.B28 : List Nat := [0, 0, 3, 7, 0, 0, 48, 112, 255, 511, 1023, 1023, 4095, 8191, 16383, 32767, 65535, 131071, 131071, 524287, 1048575, 2097151, 4194303, 8388607, 16777215, 16777215, 67108863, 134217727, 16777215, 16777215, 822083583, 1895825407, 4294967295, 16777215, 17179869183, 34359738367]
theorem spec_l10Best.tab28 : rtab .any (opsOf Try.f95 28) = spec_l10Best.T28 := by kernel_rfl
theorem spec_l10Best.bits28 : waitsOk spec_l10Best.T28.2 spec_l10Best.B28 = true := by kernel_rfl
def spec_l10Best.T29 : Bool × List (List Nat × List Nat) := (true, [([], []), ([], []), ([0, 1], [0, 1]), ([2], [2]), ([], []), ([], []), ([4, 5], [4, 5]), ([6], [6]), ([3, 7], [3, 7]), ([8, 0, 1, 2, 3, 4, 5, 6, 7, 8], [8])])
def spec_l10Best.B29 : List Nat := [0, 0, 3, 7, 0, 0, 48, 112, 255, 511]
theorem spec_l10Best.tab29 : rtab .any (opsOf Try.f95 29) = spec_l10Best.T29 := by kernel_rfl
theorem spec_l10Best.bits29 : waitsOk spec_l10Best.T29.2 spec_l10Best.B29 = true := by kernel_rfl
set_option maxHeartbeats 8000000 in
set_option maxRecDepth 100000 in
theorem spec_l10Best.calls (k : Nat) (a0_0 : Int) (A0_1 : Option Addr) (c0_1 : Nat) (l0_1 : List (S33)) (A1 : Option Addr) (c1 : Nat) (l1 : List Int) (a2 : Int) (a3 : Int) (r : Int) (w : World) (hr0_1 : Kd.C k33 w A0_1 l0_1.length l0_1) (hc0_1 : l0_1.length ≤ c0_1) (hr1 : Kd.C (Kd.int .i64) w A1 l1.length l1) (hc1 : l1.length ≤ c1) (h : spec_l10Best.f k a0_0 l0_1 l1 a2 a3 = some r) :
  Calls Try.prog 95 #[.agg #[.int .i64 a0_0, .slice A0_1 l0_1.length c0_1], .slice A1 l1.length c1, .int .i64 a2, .int .i64 a3] w fun e w' => e = .returned (.int .i64 r) ∧ Below w.heap.size w w' := by
 have hu25 := Try.underlying25
 have HR0_1 := Aside0.mk hr0_1
 have HC0_1 := Aside0.mk hc0_1
 clear hr0_1 hc0_1
 have HR1 := Aside0.mk hr1
 have HC1 := Aside0.mk hc1
 clear hr1 hc1
 have HB := Aside0.mk (Below.refl w.heap.size w)
 have H : ((spec_l10Over.f k a0_0 l0_1 l1).bind fun t102 => (if 0 ≤ a2 then (if a2 < (l1.length : Int) then ((spec_l10In.f k a0_0 l0_1 l1 (rd l1 a2)).bind fun bt106 => ((spec_l3All.f k bt106.1 bt106.2 a2).bind fun t110 => (if 0 ≤ a3 then (if a3 < (l1.length : Int) then ((spec_l10In.f k a0_0 l0_1 l1 (rd l1 a3)).bind fun bt114 => ((spec_l1Back.f k bt114.1 bt114.2).bind fun bt118 => ((spec_l3All.f k bt118.1 bt118.2 a3).bind fun t122 => (if 0 ≤ a0_0 then (if (a0_0 : Int).toNat ≤ 35184372088832 then (spec_l10Best.l0 k l1 a2 a3 t102 t110 t122 (List.replicate (a0_0 : Int).toNat 0) 0 a0_0 l0_1) else (none)) else (none))))) else (none)) else (none)))) else (none)) else (none))) = some r := h
 clear h
 replace H := Option.bind_eq_some_iff.mp H
 obtain ⟨t102, A50, H⟩ := H
 replace H : (if 0 ≤ a2 then (if a2 < (l1.length : Int) then ((spec_l10In.f k a0_0 l0_1 l1 (rd l1 a2)).bind fun bt106 => ((spec_l3All.f k bt106.1 bt106.2 a2).bind fun t110 => (if 0 ≤ a3 then (if a3 < (l1.length : Int) then ((spec_l10In.f k a0_0 l0_1 l1 (rd l1 a3)).bind fun bt114 => ((spec_l1Back.f k bt114.1 bt114.2).bind fun bt118 => ((spec_l3All.f k bt118.1 bt118.2 a3).bind fun t122 => (if 0 ≤ a0_0 then (if (a0_0 : Int).toNat ≤ 35184372088832 then (spec_l10Best.l0 k l1 a2 a3 t102 t110 t122 (List.replicate (a0_0 : Int).toNat 0) 0 a0_0 l0_1) else (none)) else (none))))) else (none)) else (none)))) else (none)) else (none)) = some r := H
 have A5 := Aside0.mk A50
 clear A50
 by_cases c6 : 0 ≤ a2
 ·
  rw [if_pos c6] at H; have c6b0 := de c6; clear c6; by_cases c7 : a2 < (l1.length : Int)
  ·
   rw [if_pos c7] at H; have c7b0 := dl c7; clear c7; replace H := Option.bind_eq_some_iff.mp H; obtain ⟨⟨t106, t107⟩, A80, H⟩ := H; replace H : ((spec_l3All.f k t106 t107 a2).bind fun t110 => (if 0 ≤ a3 then (if a3 < (l1.length : Int) then ((spec_l10In.f k a0_0 l0_1 l1 (rd l1 a3)).bind fun bt114 => ((spec_l1Back.f k bt114.1 bt114.2).bind fun bt118 => ((spec_l3All.f k bt118.1 bt118.2 a3).bind fun t122 => (if 0 ≤ a0_0 then (if (a0_0 : Int).toNat ≤ 35184372088832 then (spec_l10Best.l0 k l1 a2 a3 t102 t110 t122 (List.replicate (a0_0 : Int).toNat 0) 0 a0_0 l0_1) else (none)) else (none))))) else (none)) else (none))) = some r := H; have A8 := Aside0.mk A80; clear A80; replace H := Option.bind_eq_some_iff.mp H; obtain ⟨t110, A90, H⟩ := H; replace H : (if 0 ≤ a3 then (if a3 < (l1.length : Int) then ((spec_l10In.f k a0_0 l0_1 l1 (rd l1 a3)).bind fun bt114 => ((spec_l1Back.f k bt114.1 bt114.2).bind fun bt118 => ((spec_l3All.f k bt118.1 bt118.2 a3).bind fun t122 => (if 0 ≤ a0_0 then (if (a0_0 : Int).toNat ≤ 35184372088832 then (spec_l10Best.l0 k l1 a2 a3 t102 t110 t122 (List.replicate (a0_0 : Int).toNat 0) 0 a0_0 l0_1) else (none)) else (none))))) else (none)) else (none)) = some r := H; have A9 := Aside0.mk A90; clear A90; by_cases c10 : 0 ≤ a3
   ·
    rw [if_pos c10] at H; have c10b0 := de c10; clear c10; by_cases c11 : a3 < (l1.length : Int)
    ·
     rw [if_pos c11] at H; have c11b0 := dl c11; clear c11; replace H := Option.bind_eq_some_iff.mp H; obtain ⟨⟨t114, t115⟩, A120, H⟩ := H; replace H : ((spec_l1Back.f k t114 t115).bind fun bt118 => ((spec_l3All.f k bt118.1 bt118.2 a3).bind fun t122 => (if 0 ≤ a0_0 then (if (a0_0 : Int).toNat ≤ 35184372088832 then (spec_l10Best.l0 k l1 a2 a3 t102 t110 t122 (List.replicate (a0_0 : Int).toNat 0) 0 a0_0 l0_1) else (none)) else (none)))) = some r := H; have A12 := Aside0.mk A120; clear A120; replace H := Option.bind_eq_some_iff.mp H; obtain ⟨⟨t118, t119⟩, A130, H⟩ := H; replace H : ((spec_l3All.f k t118 t119 a3).bind fun t122 => (if 0 ≤ a0_0 then (if (a0_0 : Int).toNat ≤ 35184372088832 then (spec_l10Best.l0 k l1 a2 a3 t102 t110 t122 (List.replicate (a0_0 : Int).toNat 0) 0 a0_0 l0_1) else (none)) else (none))) = some r := H; have A13 := Aside0.mk A130; clear A130; replace H := Option.bind_eq_some_iff.mp H; obtain ⟨t122, A140, H⟩ := H; replace H : (if 0 ≤ a0_0 then (if (a0_0 : Int).toNat ≤ 35184372088832 then (spec_l10Best.l0 k l1 a2 a3 t102 t110 t122 (List.replicate (a0_0 : Int).toNat 0) 0 a0_0 l0_1) else (none)) else (none)) = some r := H; have A14 := Aside0.mk A140; clear A140; by_cases c15 : 0 ≤ a0_0
     ·
      rw [if_pos c15] at H; have c15b0 := eq_true c15; have c15b1 := de c15; clear c15; by_cases c16 : (a0_0 : Int).toNat ≤ 35184372088832
      ·
       rw [if_pos c16] at H; have c16b0 := eq_true c16; have c16b1 := de c16; clear c16; obtain ⟨y125, hy125⟩ : ∃ y_ : List Int, y_ = (List.replicate (a0_0 : Int).toNat 0) := ⟨_, rfl⟩
       replace H : (spec_l10Best.l0 k l1 a2 a3 t102 t110 t122 y125 0 a0_0 l0_1) = some r := by first | (rw [hy125]; with_reducible exact H) | (have H2_ := (Option.bind_some _ _).symm.trans H; rw [hy125]; with_reducible exact H2_) | (have H2_ := (Option.bind_some _ _).symm.trans H; with_reducible exact H2_) | with_reducible exact H | (rw [hy125]; exact H) | exact H
       have Ny125 := Aside0.mk hy125; clear hy125; have H' := Aside0.mk H; clear H; go_enter Try.func95, Try.ntmps95; try go_wp2_with (first | ((with_reducible refine gate_dst (N := 4) rfl ?_); refine be (cs := #[.int .i64 a0_0, .slice A0_1 l0_1.length c0_1]) (t := 25) ?_; intro gb101 hg w17 hbox hb; have BK101 := Aside0.mk (hbox); have GW101 := gz w hg (uB0 HB); have GE101 := gz w hg (uB0 HB); replace HB := Aside0.mk (below_step (uB0 HB) hb); clear hb hbox hg; obtain ⟨hcz18_0, hcz18_1, hfz18_0, hfz18_1⟩ := bc2 BK101) | ((with_reducible refine gate_callee (f := 91) rfl ?_); refine goesL_ (some 21) rfl rfl Try.func91 (by kernel_rfl) rfl #[.agg #[.int .i64 a0_0, .slice A0_1 l0_1.length c0_1], .slice A1 l1.length c1] rfl ul ?_; (with_reducible refine (spec_l10Over.calls k a0_0 _ _ l0_1 _ _ l1 t102 _ ?side1 ?side2 ?side3 ?side4 A5.out).mono ?_); (case side1 => exact uC HR0_1 HB); (case side2 => exact HC0_1.out); (case side3 => exact uC HR1 HB); (case side4 => exact HC1.out); rintro e w19 ⟨v103, rfl, ho0, hb⟩; refine ⟨_, rfl, ?_⟩; have HO104 := Aside0.mk (Kd.S_lower ho0 (below_size (uB1 HB GE101.out))); replace BK101 := bb BK101 hb; replace HB := Aside0.mk (below_step (uB1 HB GE101.out) hb); (try clear hb); (try clear hb2); (try clear hk); (try clear hi); (try clear ho0)))
       replace HO104 := Aside0.mk (Kd.S_drew HO104.out); replace BK101 := Aside0.mk (blk_drew BK101.out); replace HB := Aside0.mk (below_drew1 HB.out); have p105 : 0 ≤ (a2 : Int) := ua; have q105 : a2 < (l1.length : Int) := ua; obtain ⟨ad105, e105, hx105_0⟩ := Kd.at_int HR1.out a2 p105 q105; have hw105_0 := hx105_0
       cases e105
       replace hx105_0 := uc HB hx105_0; replace p105 := eq_true p105; replace q105 := eq_true q105; refine start_ (n := 10) (S := fun w' => w'.cell? ⟨gb101, 0, none⟩ = some (.int .i64 a0_0) ∧ w'.cell? ⟨gb101, 1, none⟩ = some (.slice A0_1 l0_1.length c0_1) ∧ w'.cell? (ad105.add (a2).toNat) = some (.int .i64 (rd l1 a2))) (ds := []) (zt 10 0) (by kernel_rfl) rfl (by kernel_rfl) (b2x BK101 (ud HB hw105_0)) (fun hHeld => ?_); refine with_tabW spec_l10Best.tab2 spec_l10Best.bits2 (fun HT_ HW_ => ?_); generalize w19.drew = w20 at HO104 BK101 HB hx105_0 hHeld ⊢; refine qz HT_ 1 ?_; refine qz HT_ 2 ?_; refine qz HT_ 3 ?_; refine qz HT_ 4 ?_; refine qz HT_ 7 ?_; refine qt HT_ HW_ hHeld 0 ?_; refine qt HT_ HW_ hHeld 5 ?_; refine qo HT_ 6 (fun K hK => ?_); refine goes_ Try.func116 (by kernel_rfl) rfl #[.agg #[.int .i64 a0_0, .slice A0_1 l0_1.length c0_1], .slice (some ad105) l1.length c1, .int .i64 (rd l1 a2)] (by rfl) rfl rfl ul ?_; with_reducible refine (spec_l10In.calls k a0_0 _ _ l0_1 _ _ l1 (rd l1 a2) t106 t107 _ ?side1 ?side2 ?side3 ?side4 A8.out).mono ?_
       (case side1 => exact uC HR0_1 HB); (case side2 => exact HC0_1.out); (case side3 => exact uC HR1 HB); (case side4 => exact HC1.out); rintro e w21 ⟨v108, rfl, ho0, hb⟩; refine ⟨_, rfl, ?_⟩; replace HO104 := Aside0.mk (Kd.S_below (by (with_reducible repeat (first | apply Kd.S_alloc | apply Kd.S_drewN | apply Kd.S_drew)); exact HO104.out) hb); have HO109 := Aside0.mk (Kd.R_lower ho0 (below_size (uB1 HB GE101.out))); replace BK101 := bb BK101 hb; replace HB := Aside0.mk (below_step (uB1 HB GE101.out) hb); (try clear hb); (try clear hb2); (try clear hk); (try clear hi); (try clear ho0); obtain ⟨Ao22, co22, eo22⟩ := Kd.R_slice HO109.out; (first | subst eo22 | (injection eo22 with f1_ f2_ f3_; have f4_ := f1_.symm; have f5_ := f3_.symm; clear f1_ f2_ f3_; subst f4_; subst f5_)); refine hK.out _ _ (b2x BK101 (ud HB hw105_0)) (fun hHeld => ?_); clear hK K; refine nz ?_
       refine qo HT_ 8 (fun K hK => ?_); refine goes_ Try.func87 (by kernel_rfl) rfl #[.agg #[.int .i64 t106, .slice Ao22 t107.length co22], .int .i64 a2] (by rfl) rfl rfl ul ?_; with_reducible refine (spec_l3All.calls k t106 _ _ t107 a2 t110 _ ?side1 ?side2 A9.out).mono ?_
       (case side1 => exact uD (Kd.R_reads' HO109.out).2.2); (case side2 => exact (Kd.R_reads' HO109.out).2.1); rintro e w23 ⟨v111, rfl, ho0, hb⟩; refine ⟨_, rfl, ?_⟩; replace HO104 := Aside0.mk (Kd.S_elder' (by (with_reducible repeat (first | apply Kd.S_alloc | apply Kd.S_drewN | apply Kd.S_drew)); exact HO104.out) (Kd.R_base ho0) hb); replace HO109 := Aside0.mk (Kd.R_below (ur HO109) hb); have HO112 := Aside0.mk (Kd.R_lower ho0 (below_size (uB1 HB GE101.out))); replace BK101 := bb BK101 hb; replace HB := Aside0.mk (below_step (uB1 HB GE101.out) hb); (try clear hb); (try clear hb2); (try clear hk); (try clear hi); (try clear ho0); refine hK.out _ _ (b2x BK101 (ud HB hw105_0)) (fun hHeld => ?_); clear hK K; refine nz ?_
       refine qz HT_ 9 ?_; refine done_ (done_of HT_.out (by kernel_rfl)) ?_; try go_wp2
       replace HO104 := Aside0.mk (Kd.S_drew HO104.out); replace HO109 := Aside0.mk (Kd.R_drew HO109.out); replace HO112 := Aside0.mk (Kd.R_drew HO112.out); replace BK101 := Aside0.mk (blk_drew BK101.out); replace HB := Aside0.mk (below_drew1 HB.out); have p113 : 0 ≤ (a3 : Int) := ua; have q113 : a3 < (l1.length : Int) := ua; obtain ⟨ad113, e113, hx113_0⟩ := Kd.at_int HR1.out a3 p113 q113; have hw113_0 := hx113_0; obtain rfl : ad105 = ad113 := (by injection e113)
       replace hx113_0 := uc HB hx113_0; replace p113 := eq_true p113; replace q113 := eq_true q113; refine start_ (n := 11) (S := fun w' => w'.cell? ⟨gb101, 0, none⟩ = some (.int .i64 a0_0) ∧ w'.cell? ⟨gb101, 1, none⟩ = some (.slice A0_1 l0_1.length c0_1) ∧ w'.cell? (ad105.add (a3).toNat) = some (.int .i64 (rd l1 a3))) (ds := []) (zt 11 0) (by kernel_rfl) rfl (by kernel_rfl) (b2x BK101 (ud HB hw113_0)) (fun hHeld => ?_); refine with_tabW spec_l10Best.tab3 spec_l10Best.bits3 (fun HT_ HW_ => ?_); generalize w23.drew = w24 at HO104 HO109 HO112 BK101 HB hx113_0 hHeld ⊢; refine qz HT_ 1 ?_; refine qz HT_ 2 ?_; refine qz HT_ 3 ?_; refine qz HT_ 4 ?_; refine qz HT_ 8 ?_; refine qt HT_ HW_ hHeld 0 ?_; refine qt HT_ HW_ hHeld 5 ?_; refine qo HT_ 6 (fun K hK => ?_); refine goes_ Try.func116 (by kernel_rfl) rfl #[.agg #[.int .i64 a0_0, .slice A0_1 l0_1.length c0_1], .slice (some ad105) l1.length c1, .int .i64 (rd l1 a3)] (by rfl) rfl rfl ul ?_; with_reducible refine (spec_l10In.calls k a0_0 _ _ l0_1 _ _ l1 (rd l1 a3) t114 t115 _ ?side1 ?side2 ?side3 ?side4 A12.out).mono ?_
       (case side1 => exact uC HR0_1 HB); (case side2 => exact HC0_1.out); (case side3 => exact uC HR1 HB); (case side4 => exact HC1.out); rintro e w25 ⟨v116, rfl, ho0, hb⟩; refine ⟨_, rfl, ?_⟩; replace HO104 := Aside0.mk (Kd.S_below (by (with_reducible repeat (first | apply Kd.S_alloc | apply Kd.S_drewN | apply Kd.S_drew)); exact HO104.out) hb); replace HO112 := Aside0.mk (Kd.R_below (ur HO112) hb); have HO117 := Aside0.mk (Kd.R_lower (Kd.R_new' ho0 (Kd.R_lt (ur HO109))) (below_size (uB1 HB GE101.out))); replace HO109 := Aside0.mk (Kd.R_elder' (ur HO109) (Kd.R_base ho0) hb); replace BK101 := bb BK101 hb; replace HB := Aside0.mk (below_step (uB1 HB GE101.out) hb); (try clear hb); (try clear hb2); (try clear hk); (try clear hi); (try clear ho0); obtain ⟨Ao26, co26, eo26⟩ := Kd.R_slice HO117.out; (first | subst eo26 | (injection eo26 with f1_ f2_ f3_; have f4_ := f1_.symm; have f5_ := f3_.symm; clear f1_ f2_ f3_; subst f4_; subst f5_)); refine hK.out _ _ (b2x BK101 (ud HB hw113_0)) (fun hHeld => ?_); clear hK K; refine nz ?_
       refine qo HT_ 7 (fun K hK => ?_); refine goes_ Try.func118 (by kernel_rfl) rfl #[.agg #[.int .i64 t114, .slice Ao26 t115.length co26]] (by rfl) rfl rfl ul ?_; with_reducible refine (spec_l1Back.calls k t114 _ _ t115 t118 t119 _ ?side1 ?side2 A13.out).mono ?_
       (case side1 => exact uD (Kd.R_reads' HO117.out).2.2); (case side2 => exact (Kd.R_reads' HO117.out).2.1); rintro e w27 ⟨v120, rfl, ho0, hb⟩; refine ⟨_, rfl, ?_⟩; replace HO104 := Aside0.mk (Kd.S_below (by (with_reducible repeat (first | apply Kd.S_alloc | apply Kd.S_drewN | apply Kd.S_drew)); exact HO104.out) hb); replace HO112 := Aside0.mk (Kd.R_below (ur HO112) hb); have HO121 := Aside0.mk (Kd.R_lower (Kd.R_new' (Kd.R_new' ho0 (Kd.R_lt (ur HO109))) (Kd.R_lt (ur HO117))) (below_size (uB1 HB GE101.out))); replace HO109 := Aside0.mk (Kd.R_elder' (ur HO109) (Kd.R_base ho0) hb); replace HO117 := Aside0.mk (Kd.R_elder' (ur HO117) (Kd.R_base ho0) hb); replace BK101 := bb BK101 hb; replace HB := Aside0.mk (below_step (uB1 HB GE101.out) hb); (try clear hb); (try clear hb2); (try clear hk); (try clear hi); (try clear ho0); obtain ⟨Ao28, co28, eo28⟩ := Kd.R_slice HO121.out; (first | subst eo28 | (injection eo28 with f1_ f2_ f3_; have f4_ := f1_.symm; have f5_ := f3_.symm; clear f1_ f2_ f3_; subst f4_; subst f5_)); refine hK.out _ _ (b2x BK101 (ud HB hw113_0)) (fun hHeld => ?_); clear hK K; refine nz ?_
       refine qo HT_ 9 (fun K hK => ?_); refine goes_ Try.func87 (by kernel_rfl) rfl #[.agg #[.int .i64 t118, .slice Ao28 t119.length co28], .int .i64 a3] (by rfl) rfl rfl ul ?_; with_reducible refine (spec_l3All.calls k t118 _ _ t119 a3 t122 _ ?side1 ?side2 A14.out).mono ?_
       (case side1 => exact uD (Kd.R_reads' HO121.out).2.2); (case side2 => exact (Kd.R_reads' HO121.out).2.1); rintro e w29 ⟨v123, rfl, ho0, hb⟩; refine ⟨_, rfl, ?_⟩; replace HO104 := Aside0.mk (Kd.S_elder' (by (with_reducible repeat (first | apply Kd.S_alloc | apply Kd.S_drewN | apply Kd.S_drew)); exact HO104.out) (Kd.R_base ho0) hb); replace HO109 := Aside0.mk (Kd.R_below (ur HO109) hb); replace HO117 := Aside0.mk (Kd.R_below (ur HO117) hb); replace HO121 := Aside0.mk (Kd.R_below (ur HO121) hb); have HO124 := Aside0.mk (Kd.R_lower (Kd.R_new' ho0 (Kd.R_lt (ur HO112))) (below_size (uB1 HB GE101.out))); replace HO112 := Aside0.mk (Kd.R_elder' (ur HO112) (Kd.R_base ho0) hb); replace BK101 := bb BK101 hb; replace HB := Aside0.mk (below_step (uB1 HB GE101.out) hb); (try clear hb); (try clear hb2); (try clear hk); (try clear hi); (try clear ho0); refine hK.out _ _ (b2x BK101 (ud HB hw113_0)) (fun hHeld => ?_); clear hK K; refine nz ?_
       refine qz HT_ 10 ?_; refine done_ (done_of HT_.out (by kernel_rfl)) ?_; obtain ⟨hcz30_0, hcz30_1, hfz30_0, hfz30_1⟩ := bc2 BK101; try go_wp2_with (first | ((with_reducible refine gate_dst (N := 43) rfl ?_); refine Kd.R_make (Kd.int .i64) _ 3 rfl (N := 43) rfl 26 _ _ rfl a0_0 rfl rfl Try.underlying26 (.int .i64 0) 8 info3 rfl (by decide) (by omega) 0 (ok := fun _ => True) (okp := fun _ => True) rfl (fun _ hk => hk) trivial (ua) (Nat.le_trans (Nat.mul_le_mul_right _ (ua : a0_0.toNat ≤ 35184372088832)) (by omega)) (Below.refl _ _) (Nat.le_refl _) ?_; intro v126 w31 ho32 hb hg_ hnew_; clear hg_ hnew_; (first | rw [← Ny125.out] at ho32 | (simp only [Int.reduceToNat] at ho32; rw [← Ny125.out] at ho32)); replace HO104 := Aside0.mk (Kd.S_elder' (by (with_reducible repeat (first | apply Kd.S_alloc | apply Kd.S_drewN | apply Kd.S_drew)); exact HO104.out) (Kd.R_base ho32) hb); replace HO109 := Aside0.mk (Kd.R_below (ur HO109) hb); replace HO117 := Aside0.mk (Kd.R_below (ur HO117) hb); replace HO121 := Aside0.mk (Kd.R_below (ur HO121) hb); have HO127 := Aside0.mk (Kd.R_lower (Kd.R_new' (Kd.R_new' ho32 (Kd.R_lt (ur HO112))) (Kd.R_lt (ur HO124))) (below_size (uB1 HB GE101.out))); replace HO112 := Aside0.mk (Kd.R_elder' (ur HO112) (Kd.R_base ho32) hb); replace HO124 := Aside0.mk (Kd.R_elder' (ur HO124) (Kd.R_base ho32) hb); replace BK101 := bb BK101 hb; replace HB := Aside0.mk (below_step (uB1 HB GE101.out) hb); clear hb ho32))
       go_loopg [13] k (fun kq v13 w' => ∃ (x12_1 : List Int) (x13_1 : Int), v13 = .int .i64 x13_1 ∧ Aside0 (spec_l10Best.l0 kq l1 a2 a3 t102 t110 t122 x12_1 x13_1 a0_0 l0_1 = some r) ∧ Aside0 (kq ≤ k) ∧ Aside0 (Kd.S (Kd.slice 3 (Kd.int .i64)) 26 w' w.heap.size (fun k_ => some k_ ≠ (v111 : Value).ownBlock ∧ some k_ ≠ (v123 : Value).ownBlock ∧ some k_ ≠ (v126 : Value).ownBlock) v103 t102) ∧ Aside0 (Kd.R (Kd.int .i64) 3 w' w.heap.size (fun k_ => some k_ ≠ (v123 : Value).ownBlock ∧ some k_ ≠ (v126 : Value).ownBlock) v111 t110) ∧ Aside0 (Kd.R (Kd.int .i64) 3 w' w.heap.size (fun k_ => some k_ ≠ (v111 : Value).ownBlock ∧ some k_ ≠ (v126 : Value).ownBlock) v123 t122) ∧ Aside0 (Kd.R (Kd.int .i64) 3 w' w.heap.size (fun k_ => some k_ ≠ (v111 : Value).ownBlock ∧ some k_ ≠ (v123 : Value).ownBlock) v126 x12_1) ∧ Aside0 (w'.heap[gb101]? = some (.cells #[.int .i64 a0_0, (.slice A0_1 l0_1.length c0_1)] 25 (0, 0))) ∧ Aside0 (Below w.heap.size w w'))
       case atStart => exact ⟨(y125), (0), ue, H', ⟨Nat.le_refl _⟩, ⟨by (with_reducible repeat (first | apply Kd.S_alloc | apply Kd.S_drewN | apply Kd.S_drew)); exact Kd.S_mono HO104.out (fun _ hk => ⟨hk.1.1.2, ⟨hk.1.2, hk.2⟩⟩)⟩, ⟨by (with_reducible repeat (first | apply Kd.R_alloc | apply Kd.R_drewN | apply Kd.R_drew)); exact Kd.R_mono HO112.out (fun _ hk => ⟨hk.1.2, hk.2⟩)⟩, ⟨by (with_reducible repeat (first | apply Kd.R_alloc | apply Kd.R_drewN | apply Kd.R_drew)); exact Kd.R_mono HO124.out (fun _ hk => ⟨hk.1.2, hk.2⟩)⟩, ⟨by (with_reducible repeat (first | apply Kd.R_alloc | apply Kd.R_drewN | apply Kd.R_drew)); exact Kd.R_mono HO127.out (fun _ hk => ⟨hk.1.2, hk.2⟩)⟩, ⟨ub BK101⟩, ⟨uB1 HB GE101.out⟩⟩
       case round =>
        clear H'; try clear c1
        try clear p1
        try clear q1
        try clear hx1
        try clear p2
        try clear c6
        try clear c6b0
        try clear c7
        try clear c7b0
        try clear c8
        try clear c9
        try clear c10
        try clear c10b0
        try clear p10
        try clear q10
        try clear hx10
        try clear c11
        try clear c11b0
        try clear p11
        try clear q11
        try clear hx11
        try clear c15
        try clear c15b0
        try clear c15b1
        try clear c16
        try clear c16b0
        try clear c16b1
        try clear hcz18_0 hcz18_1
        try clear hcz30_0 hcz30_1
        try clear hfz18_0 hfz18_1
        try clear hfz30_0 hfz30_1
        try clear hx105_0
        try clear hx113_0
        try clear p105
        try clear p113
        try clear q105
        try clear q113
        obtain ⟨x12_1, x13_1, rfl, HA, HK1, HO_9, HO_10, HO_11, HO_12, BK101, HB⟩ := hrel
        cases gk with
        | zero => exact absurd HA.out (by simp [spec_l10Best.l0])
        | succ k1 =>
         have H := HA.out; clear HA; simp only [spec_l10Best.l0] at H; by_cases c33 : x13_1 < a0_0
         ·
          rw [if_pos c33] at H; have c33b0 := dl c33; clear c33; by_cases c34 : 0 ≤ x13_1
          ·
           rw [if_pos c34] at H; have c34b0 := de c34; clear c34; by_cases c35 : x13_1 < (x12_1.length : Int)
           ·
            rw [if_pos c35] at H; have c35b0 := dl c35; clear c35; obtain ⟨y128, hy128⟩ : ∃ y_ : List Int, y_ = (x12_1.set (x13_1 : Int).toNat 99999) := ⟨_, rfl⟩
            replace H : (if x13_1 < (l1.length : Int) then (if 0 ≤ a2 then (if a2 < (l1.length : Int) then (if (rd l1 x13_1) = (rd l1 a2) then ((spec_l10Edge.f k1 a0_0 l0_1 l1 x13_1).bind fun t131 => (if t131 = true then (if x13_1 < (t110.length : Int) then (spec_l10Best.l0 k1 l1 a2 a3 t102 t110 t122 (y128.set (x13_1 : Int).toNat (rd t110 x13_1)) (wrap64 (x13_1 + 1)) a0_0 l0_1) else (none)) else (spec_l10Best.l0 k1 l1 a2 a3 t102 t110 t122 y128 (wrap64 (x13_1 + 1)) a0_0 l0_1))) else (spec_l10Best.l0 k1 l1 a2 a3 t102 t110 t122 y128 (wrap64 (x13_1 + 1)) a0_0 l0_1)) else (none)) else (none)) else (none)) = some r := by first | (rw [hy128]; with_reducible exact H) | (have H2_ := (Option.bind_some _ _).symm.trans H; rw [hy128]; with_reducible exact H2_) | (have H2_ := (Option.bind_some _ _).symm.trans H; with_reducible exact H2_) | with_reducible exact H | (rw [hy128]; exact H) | exact H
            have Ny128 := Aside0.mk hy128; clear hy128; by_cases c37 : x13_1 < (l1.length : Int)
            ·
             rw [if_pos c37] at H; have c37b0 := dl c37; clear c37; by_cases c38 : 0 ≤ a2
             ·
              rw [if_pos c38] at H; have c38b0 := de c38; clear c38; by_cases c39 : a2 < (l1.length : Int)
              ·
               rw [if_pos c39] at H; have c39b0 := dl c39; clear c39; by_cases c40 : (rd l1 x13_1) = (rd l1 a2)
               ·
                rw [if_pos c40] at H; obtain ⟨c40b0, c40b1⟩ := dq c40; clear c40; replace H := Option.bind_eq_some_iff.mp H; obtain ⟨t131, A410, H⟩ := H; replace H : (if t131 = true then (if x13_1 < (t110.length : Int) then (spec_l10Best.l0 k1 l1 a2 a3 t102 t110 t122 (y128.set (x13_1 : Int).toNat (rd t110 x13_1)) (wrap64 (x13_1 + 1)) a0_0 l0_1) else (none)) else (spec_l10Best.l0 k1 l1 a2 a3 t102 t110 t122 y128 (wrap64 (x13_1 + 1)) a0_0 l0_1)) = some r := H; have A41 := Aside0.mk A410; clear A410; by_cases c42 : t131 = true
                ·
                 subst c42; rw [if_pos rfl] at H; by_cases c43 : x13_1 < (t110.length : Int)
                 ·
                  rw [if_pos c43] at H; have c43b0 := dl c43; clear c43; obtain ⟨y133, hy133⟩ : ∃ y_ : List Int, y_ = (y128.set (x13_1 : Int).toNat (rd t110 x13_1)) := ⟨_, rfl⟩
                  replace H : (spec_l10Best.l0 k1 l1 a2 a3 t102 t110 t122 y133 (wrap64 (x13_1 + 1)) a0_0 l0_1) = some r := by first | (rw [hy133]; with_reducible exact H) | (have H2_ := (Option.bind_some _ _).symm.trans H; rw [hy133]; with_reducible exact H2_) | (have H2_ := (Option.bind_some _ _).symm.trans H; with_reducible exact H2_) | with_reducible exact H | (rw [hy133]; exact H) | exact H
                  have Ny133 := Aside0.mk hy133; clear hy133; have H' := Aside0.mk H; clear H; obtain ⟨hcz45_0, hcz45_1, hfz45_0, hfz45_1⟩ := bc2 BK101; have p36 : 0 ≤ (x13_1 : Int) := ua; have q36 : (x13_1 : Int) < ((x12_1.length : Int) : Int) := ua; obtain ⟨go36, co36, eo36, gb36, gl36, cl36, HG36⟩ := Kd.R_form HO_12.out (by omega); (first | cases eo36 | (injection eo36 with ea_ en_ ec_; (first | subst ea_ | (injection ea_ with ea_; subst ea_)); subst ec_; clear en_)); have GB36 := Aside0.mk gb36; have GG36 := Aside0.mk HG36; clear gb36 gl36 HG36; obtain ⟨hx36_0, hf36_0⟩ := Kd.R_celln 0 HO_12.out (x13_1 : Int) p36 q36; replace p36 := eq_true p36; replace q36 := eq_true q36; have HP46 := Kd.R_putg HO_12.out (x13_1 : Int) 99999; try go_wp2_with (first | ((with_reducible refine gate_store (t := 3) (p := 52) rfl ?_); refine store_event (t := 3) (p := 52) (v := ?vo_w47) (w1 := (wr.setCell ⟨go36, (x13_1 : Int).toNat, none⟩ (.int .i64 99999))) ?hg ?ho ?hn ?hr ?_; (case ho => rfl); (case hg => rfl); (case hn => rfl); (case hr => first | (go_simp; done) | (go_simp; rfl)); intro w47 hw; have hg : wr.grownBy w47 (some go36) := (by rw [hw]; exact HP46.2); have hp_ : Kd.R (Kd.int .i64) 3 w47 w.heap.size (fun k_ => some k_ ≠ (v111 : Value).ownBlock ∧ some k_ ≠ (v123 : Value).ownBlock) (.slice (some ⟨go36, 0, none⟩) x12_1.length co36) y128 := (by rw [hw, Ny128.out]; exact HP46.1); clear HP46; replace HO_9 := Aside0.mk (Kd.S_after (v := (.slice (some ⟨go36, 0, none⟩) x12_1.length co36)) (v1 := (.slice (some ⟨go36, 0, none⟩) x12_1.length co36)) (ok := (fun k_ => some k_ ≠ (v111 : Value).ownBlock ∧ some k_ ≠ (v123 : Value).ownBlock)) (by (with_reducible repeat (first | apply Kd.S_alloc | apply Kd.S_drewN | apply Kd.S_drew)); exact Kd.S_mono HO_9.out (fun _ hk => ⟨⟨hk.1, hk.2.1⟩, hk.2.2⟩)) hg (.inl rfl)); replace HO_10 := Aside0.mk (Kd.R_after (v := (.slice (some ⟨go36, 0, none⟩) x12_1.length co36)) (v1 := (.slice (some ⟨go36, 0, none⟩) x12_1.length co36)) (ok := (fun k_ => some k_ ≠ (v123 : Value).ownBlock)) (ur HO_10) hg (.inl rfl)); replace HO_11 := Aside0.mk (Kd.R_after (v := (.slice (some ⟨go36, 0, none⟩) x12_1.length co36)) (v1 := (.slice (some ⟨go36, 0, none⟩) x12_1.length co36)) (ok := (fun k_ => some k_ ≠ (v111 : Value).ownBlock)) (ur HO_11) hg (.inl rfl)); replace BK101 := bg BK101 hg (Kd.R_ne HO_12.out BK101.out (by decide)); replace HO_12 := Aside0.mk (hp_); replace HB := Aside0.mk ((by rw [hw]; exact below_set (HB.out) GB36.out : Below w.heap.size w w47)); clear hg hw hp_))
                  replace HO_9 := Aside0.mk (Kd.S_drew HO_9.out); replace HO_10 := Aside0.mk (Kd.R_drew HO_10.out); replace HO_11 := Aside0.mk (Kd.R_drew HO_11.out); replace HO_12 := Aside0.mk (Kd.R_drew HO_12.out); replace BK101 := Aside0.mk (blk_drew BK101.out); replace HB := Aside0.mk (below_drew1 HB.out); have p129 : 0 ≤ (x13_1 : Int) := ua; have q129 : x13_1 < (l1.length : Int) := ua; obtain ⟨ad129, e129, hx129_0⟩ := Kd.at_int HR1.out x13_1 p129 q129; have hw129_0 := hx129_0; obtain rfl : ad105 = ad129 := (by injection e129)
                  replace hx129_0 := uc HB hx129_0; replace p129 := eq_true p129; replace q129 := eq_true q129; have p130 : 0 ≤ (a2 : Int) := ua; have q130 : a2 < (l1.length : Int) := ua; obtain ⟨ad130, e130, hx130_0⟩ := Kd.at_int HR1.out a2 p130 q130; have hw130_0 := hx130_0; obtain rfl : ad105 = ad130 := (by injection e130)
                  replace hx130_0 := uc HB hx130_0; replace p130 := eq_true p130; replace q130 := eq_true q130; refine start_ (n := 15) (S := fun w' => w'.cell? ⟨gb101, 0, none⟩ = some (.int .i64 a0_0) ∧ w'.cell? ⟨gb101, 1, none⟩ = some (.slice A0_1 l0_1.length c0_1) ∧ w'.cell? (ad105.add (x13_1).toNat) = some (.int .i64 (rd l1 x13_1)) ∧ w'.cell? (ad105.add (a2).toNat) = some (.int .i64 (rd l1 a2))) (ds := []) (zt 15 0) (by kernel_rfl) rfl (by kernel_rfl) (b2x BK101 ⟨(ud HB hw129_0), (ud HB hw130_0)⟩) (fun hHeld => ?_); refine with_tabW spec_l10Best.tab9 spec_l10Best.bits9 (fun HT_ HW_ => ?_); generalize w47.drew = w48 at HO_9 HO_10 HO_11 HO_12 BK101 HB hx129_0 hx130_0 hHeld ⊢; refine qz HT_ 0 ?_; refine qz HT_ 1 ?_; refine qz HT_ 2 ?_; refine qz HT_ 4 ?_; refine qz HT_ 5 ?_; refine qz HT_ 6 ?_; refine qt HT_ HW_ hHeld 3 ?_; refine qt HT_ HW_ hHeld 7 ?_; refine qz HT_ 8 ?_; refine qz HT_ 9 ?_; refine qz HT_ 11 ?_; refine qz HT_ 12 ?_; refine qt HT_ HW_ hHeld 10 ?_; refine qo HT_ 13 (fun K hK => ?_); refine goes_ Try.func75 (by kernel_rfl) rfl #[.agg #[.int .i64 a0_0, .slice A0_1 l0_1.length c0_1], .slice (some ad105) l1.length c1, .int .i64 x13_1] (by rfl) rfl rfl ul ?_; with_reducible refine (spec_l10Edge.calls k1 a0_0 _ _ l0_1 _ _ l1 x13_1 true _ ?side1 ?side2 ?side3 ?side4 A41.out).mono ?_
                  (case side1 => exact uC HR0_1 HB); (case side2 => exact HC0_1.out); (case side3 => exact uC HR1 HB); (case side4 => exact HC1.out); rintro e w49 ⟨rfl, hb⟩; refine ⟨_, rfl, ?_⟩; replace HO_9 := Aside0.mk (Kd.S_below (by (with_reducible repeat (first | apply Kd.S_alloc | apply Kd.S_drewN | apply Kd.S_drew)); exact HO_9.out) hb); replace HO_10 := Aside0.mk (Kd.R_below (ur HO_10) hb); replace HO_11 := Aside0.mk (Kd.R_below (ur HO_11) hb); replace HO_12 := Aside0.mk (Kd.R_below (ur HO_12) hb); replace BK101 := bb BK101 hb; replace HB := Aside0.mk (below_step (uB1 HB GE101.out) hb); (try clear hb); (try clear hb2); (try clear hk); (try clear hi); refine hK.out _ _ (b2x BK101 ⟨(ud HB hw129_0), (ud HB hw130_0)⟩) (fun hHeld => ?_); clear hK K; refine nz ?_
                  refine qz HT_ 14 ?_; refine done_ (done_of HT_.out (by kernel_rfl)) ?_; obtain ⟨Ao50, co50, eo50⟩ := Kd.R_slice HO_10.out; subst eo50; have p132 : 0 ≤ (x13_1 : Int) := ua; have q132 : x13_1 < (t110.length : Int) := ua; obtain ⟨ad132, e132, hx132_0⟩ := Kd.at_int (Kd.R_reads' HO_10.out).2.2 x13_1 p132 q132
                  cases e132
                  replace p132 := eq_true p132; replace q132 := eq_true q132; have p44 : 0 ≤ (x13_1 : Int) := ua; have q44 : (x13_1 : Int) < ((x12_1.length : Int) : Int) := ua; obtain ⟨hx44_0, hf44_0⟩ := Kd.R_celln 0 HO_12.out (x13_1 : Int) p44 q44; replace p44 := eq_true p44; replace q44 := eq_true q44; obtain ⟨hy51_, hz51_⟩ := Kd.R_celln 0 HO_12.out (x13_1 : Int) (ua) (ua); have HP51 := Kd.R_putg HO_12.out (x13_1 : Int) (rd t110 x13_1); try go_wp2_with (first | ((with_reducible refine gate_store (t := 3) (p := 74) rfl ?_); refine store_event (t := 3) (p := 74) (v := ?vo_w52) (w1 := (w49.setCell ⟨go36, (x13_1 : Int).toNat, none⟩ (.int .i64 (rd t110 x13_1)))) ?hg ?ho ?hn ?hr ?_; (case ho => rfl); (case hg => rfl); (case hn => rfl); (case hr => first | (go_simp; done) | (go_simp; rfl)); intro w52 hw; have hg : w49.grownBy w52 (some go36) := (by rw [hw]; exact HP51.2); have hp_ : Kd.R (Kd.int .i64) 3 w52 w.heap.size (fun k_ => some k_ ≠ (.slice (some ad132) t110.length co50 : Value).ownBlock ∧ some k_ ≠ (v123 : Value).ownBlock) (.slice (some ⟨go36, 0, none⟩) x12_1.length co36) y133 := (by rw [hw, Ny133.out]; exact HP51.1); clear HP51; replace HO_9 := Aside0.mk (Kd.S_after (v := (.slice (some ⟨go36, 0, none⟩) x12_1.length co36)) (v1 := (.slice (some ⟨go36, 0, none⟩) x12_1.length co36)) (ok := (fun k_ => some k_ ≠ (.slice (some ad132) t110.length co50 : Value).ownBlock ∧ some k_ ≠ (v123 : Value).ownBlock)) (by (with_reducible repeat (first | apply Kd.S_alloc | apply Kd.S_drewN | apply Kd.S_drew)); exact HO_9.out) hg (.inl rfl)); replace HO_10 := Aside0.mk (Kd.R_after (v := (.slice (some ⟨go36, 0, none⟩) x12_1.length co36)) (v1 := (.slice (some ⟨go36, 0, none⟩) x12_1.length co36)) (ok := (fun k_ => some k_ ≠ (v123 : Value).ownBlock)) (ur HO_10) hg (.inl rfl)); replace HO_11 := Aside0.mk (Kd.R_after (v := (.slice (some ⟨go36, 0, none⟩) x12_1.length co36)) (v1 := (.slice (some ⟨go36, 0, none⟩) x12_1.length co36)) (ok := (fun k_ => some k_ ≠ (.slice (some ad132) t110.length co50 : Value).ownBlock)) (ur HO_11) hg (.inl rfl)); replace BK101 := bg BK101 hg (Kd.R_ne HO_12.out BK101.out (by decide)); replace HO_12 := Aside0.mk (hp_); replace HB := Aside0.mk ((by rw [hw]; exact below_set (HB.out) GB36.out : Below w.heap.size w w52)); clear hg hw hp_))
                  go_roundg k1
                  case measure => have := HK1.out; omega
                  case rel => exact ⟨(y133), (wrap64 (x13_1 + 1)), ue, H', ⟨by have := HK1.out; omega⟩, ⟨by (with_reducible repeat (first | apply Kd.S_alloc | apply Kd.S_drewN | apply Kd.S_drew)); exact Kd.S_mono HO_9.out (fun _ hk => ⟨hk.1.1, ⟨hk.1.2, hk.2⟩⟩)⟩, ⟨ur HO_10⟩, ⟨ur HO_11⟩, ⟨ur HO_12⟩, ⟨ub BK101⟩, ⟨uB1 HB GE101.out⟩⟩
                 ·
                  rw [if_neg c43] at H; exact absurd H (by simp)
                ·
                 replace c42 := Bool.eq_false_iff.mpr c42; subst c42; rw [if_neg (show ¬ (false = true) by decide)] at H; have H' := Aside0.mk H; clear H; obtain ⟨hcz53_0, hcz53_1, hfz53_0, hfz53_1⟩ := bc2 BK101; have p36 : 0 ≤ (x13_1 : Int) := ua; have q36 : (x13_1 : Int) < ((x12_1.length : Int) : Int) := ua; obtain ⟨go36, co36, eo36, gb36, gl36, cl36, HG36⟩ := Kd.R_form HO_12.out (by omega); (first | cases eo36 | (injection eo36 with ea_ en_ ec_; (first | subst ea_ | (injection ea_ with ea_; subst ea_)); subst ec_; clear en_)); have GB36 := Aside0.mk gb36; have GG36 := Aside0.mk HG36; clear gb36 gl36 HG36; obtain ⟨hx36_0, hf36_0⟩ := Kd.R_celln 0 HO_12.out (x13_1 : Int) p36 q36; replace p36 := eq_true p36; replace q36 := eq_true q36; have HP54 := Kd.R_putg HO_12.out (x13_1 : Int) 99999; try go_wp2_with (first | ((with_reducible refine gate_store (t := 3) (p := 52) rfl ?_); refine store_event (t := 3) (p := 52) (v := ?vo_w55) (w1 := (wr.setCell ⟨go36, (x13_1 : Int).toNat, none⟩ (.int .i64 99999))) ?hg ?ho ?hn ?hr ?_; (case ho => rfl); (case hg => rfl); (case hn => rfl); (case hr => first | (go_simp; done) | (go_simp; rfl)); intro w55 hw; have hg : wr.grownBy w55 (some go36) := (by rw [hw]; exact HP54.2); have hp_ : Kd.R (Kd.int .i64) 3 w55 w.heap.size (fun k_ => some k_ ≠ (v111 : Value).ownBlock ∧ some k_ ≠ (v123 : Value).ownBlock) (.slice (some ⟨go36, 0, none⟩) x12_1.length co36) y128 := (by rw [hw, Ny128.out]; exact HP54.1); clear HP54; replace HO_9 := Aside0.mk (Kd.S_after (v := (.slice (some ⟨go36, 0, none⟩) x12_1.length co36)) (v1 := (.slice (some ⟨go36, 0, none⟩) x12_1.length co36)) (ok := (fun k_ => some k_ ≠ (v111 : Value).ownBlock ∧ some k_ ≠ (v123 : Value).ownBlock)) (by (with_reducible repeat (first | apply Kd.S_alloc | apply Kd.S_drewN | apply Kd.S_drew)); exact Kd.S_mono HO_9.out (fun _ hk => ⟨⟨hk.1, hk.2.1⟩, hk.2.2⟩)) hg (.inl rfl)); replace HO_10 := Aside0.mk (Kd.R_after (v := (.slice (some ⟨go36, 0, none⟩) x12_1.length co36)) (v1 := (.slice (some ⟨go36, 0, none⟩) x12_1.length co36)) (ok := (fun k_ => some k_ ≠ (v123 : Value).ownBlock)) (ur HO_10) hg (.inl rfl)); replace HO_11 := Aside0.mk (Kd.R_after (v := (.slice (some ⟨go36, 0, none⟩) x12_1.length co36)) (v1 := (.slice (some ⟨go36, 0, none⟩) x12_1.length co36)) (ok := (fun k_ => some k_ ≠ (v111 : Value).ownBlock)) (ur HO_11) hg (.inl rfl)); replace BK101 := bg BK101 hg (Kd.R_ne HO_12.out BK101.out (by decide)); replace HO_12 := Aside0.mk (hp_); replace HB := Aside0.mk ((by rw [hw]; exact below_set (HB.out) GB36.out : Below w.heap.size w w55)); clear hg hw hp_))
                 replace HO_9 := Aside0.mk (Kd.S_drew HO_9.out); replace HO_10 := Aside0.mk (Kd.R_drew HO_10.out); replace HO_11 := Aside0.mk (Kd.R_drew HO_11.out); replace HO_12 := Aside0.mk (Kd.R_drew HO_12.out); replace BK101 := Aside0.mk (blk_drew BK101.out); replace HB := Aside0.mk (below_drew1 HB.out); have p129 : 0 ≤ (x13_1 : Int) := ua; have q129 : x13_1 < (l1.length : Int) := ua; obtain ⟨ad129, e129, hx129_0⟩ := Kd.at_int HR1.out x13_1 p129 q129; have hw129_0 := hx129_0; obtain rfl : ad105 = ad129 := (by injection e129)
                 replace hx129_0 := uc HB hx129_0; replace p129 := eq_true p129; replace q129 := eq_true q129; have p130 : 0 ≤ (a2 : Int) := ua; have q130 : a2 < (l1.length : Int) := ua; obtain ⟨ad130, e130, hx130_0⟩ := Kd.at_int HR1.out a2 p130 q130; have hw130_0 := hx130_0; obtain rfl : ad105 = ad130 := (by injection e130)
                 replace hx130_0 := uc HB hx130_0; replace p130 := eq_true p130; replace q130 := eq_true q130; refine start_ (n := 15) (S := fun w' => w'.cell? ⟨gb101, 0, none⟩ = some (.int .i64 a0_0) ∧ w'.cell? ⟨gb101, 1, none⟩ = some (.slice A0_1 l0_1.length c0_1) ∧ w'.cell? (ad105.add (x13_1).toNat) = some (.int .i64 (rd l1 x13_1)) ∧ w'.cell? (ad105.add (a2).toNat) = some (.int .i64 (rd l1 a2))) (ds := []) (zt 15 0) (by kernel_rfl) rfl (by kernel_rfl) (b2x BK101 ⟨(ud HB hw129_0), (ud HB hw130_0)⟩) (fun hHeld => ?_); refine with_tabW spec_l10Best.tab9 spec_l10Best.bits9 (fun HT_ HW_ => ?_); generalize w55.drew = w56 at HO_9 HO_10 HO_11 HO_12 BK101 HB hx129_0 hx130_0 hHeld ⊢; refine qz HT_ 0 ?_; refine qz HT_ 1 ?_; refine qz HT_ 2 ?_; refine qz HT_ 4 ?_; refine qz HT_ 5 ?_; refine qz HT_ 6 ?_; refine qt HT_ HW_ hHeld 3 ?_; refine qt HT_ HW_ hHeld 7 ?_; refine qz HT_ 8 ?_; refine qz HT_ 9 ?_; refine qz HT_ 11 ?_; refine qz HT_ 12 ?_; refine qt HT_ HW_ hHeld 10 ?_; refine qo HT_ 13 (fun K hK => ?_); refine goes_ Try.func75 (by kernel_rfl) rfl #[.agg #[.int .i64 a0_0, .slice A0_1 l0_1.length c0_1], .slice (some ad105) l1.length c1, .int .i64 x13_1] (by rfl) rfl rfl ul ?_; with_reducible refine (spec_l10Edge.calls k1 a0_0 _ _ l0_1 _ _ l1 x13_1 false _ ?side1 ?side2 ?side3 ?side4 A41.out).mono ?_
                 (case side1 => exact uC HR0_1 HB); (case side2 => exact HC0_1.out); (case side3 => exact uC HR1 HB); (case side4 => exact HC1.out); rintro e w57 ⟨rfl, hb⟩; refine ⟨_, rfl, ?_⟩; replace HO_9 := Aside0.mk (Kd.S_below (by (with_reducible repeat (first | apply Kd.S_alloc | apply Kd.S_drewN | apply Kd.S_drew)); exact HO_9.out) hb); replace HO_10 := Aside0.mk (Kd.R_below (ur HO_10) hb); replace HO_11 := Aside0.mk (Kd.R_below (ur HO_11) hb); replace HO_12 := Aside0.mk (Kd.R_below (ur HO_12) hb); replace BK101 := bb BK101 hb; replace HB := Aside0.mk (below_step (uB1 HB GE101.out) hb); (try clear hb); (try clear hb2); (try clear hk); (try clear hi); refine hK.out _ _ (b2x BK101 ⟨(ud HB hw129_0), (ud HB hw130_0)⟩) (fun hHeld => ?_); clear hK K; refine nz ?_
                 refine qz HT_ 14 ?_; refine done_ (done_of HT_.out (by kernel_rfl)) ?_; try go_wp2
                 go_roundg k1
                 case measure => have := HK1.out; omega
                 case rel => exact ⟨(y128), (wrap64 (x13_1 + 1)), ue, H', ⟨by have := HK1.out; omega⟩, ⟨by (with_reducible repeat (first | apply Kd.S_alloc | apply Kd.S_drewN | apply Kd.S_drew)); exact Kd.S_mono HO_9.out (fun _ hk => ⟨hk.1.1, ⟨hk.1.2, hk.2⟩⟩)⟩, ⟨ur HO_10⟩, ⟨ur HO_11⟩, ⟨ur HO_12⟩, ⟨ub BK101⟩, ⟨uB1 HB GE101.out⟩⟩
               ·
                rw [if_neg c40] at H; obtain ⟨c40b0, c40b1⟩ := dQ c40; have H' := Aside0.mk H; clear H; obtain ⟨hcz58_0, hcz58_1, hfz58_0, hfz58_1⟩ := bc2 BK101; have p36 : 0 ≤ (x13_1 : Int) := ua; have q36 : (x13_1 : Int) < ((x12_1.length : Int) : Int) := ua; obtain ⟨go36, co36, eo36, gb36, gl36, cl36, HG36⟩ := Kd.R_form HO_12.out (by omega); (first | cases eo36 | (injection eo36 with ea_ en_ ec_; (first | subst ea_ | (injection ea_ with ea_; subst ea_)); subst ec_; clear en_)); have GB36 := Aside0.mk gb36; have GG36 := Aside0.mk HG36; clear gb36 gl36 HG36; obtain ⟨hx36_0, hf36_0⟩ := Kd.R_celln 0 HO_12.out (x13_1 : Int) p36 q36; replace p36 := eq_true p36; replace q36 := eq_true q36; have HP59 := Kd.R_putg HO_12.out (x13_1 : Int) 99999; try go_wp2_with (first | ((with_reducible refine gate_store (t := 3) (p := 52) rfl ?_); refine store_event (t := 3) (p := 52) (v := ?vo_w60) (w1 := (wr.setCell ⟨go36, (x13_1 : Int).toNat, none⟩ (.int .i64 99999))) ?hg ?ho ?hn ?hr ?_; (case ho => rfl); (case hg => rfl); (case hn => rfl); (case hr => first | (go_simp; done) | (go_simp; rfl)); intro w60 hw; have hg : wr.grownBy w60 (some go36) := (by rw [hw]; exact HP59.2); have hp_ : Kd.R (Kd.int .i64) 3 w60 w.heap.size (fun k_ => some k_ ≠ (v111 : Value).ownBlock ∧ some k_ ≠ (v123 : Value).ownBlock) (.slice (some ⟨go36, 0, none⟩) x12_1.length co36) y128 := (by rw [hw, Ny128.out]; exact HP59.1); clear HP59; replace HO_9 := Aside0.mk (Kd.S_after (v := (.slice (some ⟨go36, 0, none⟩) x12_1.length co36)) (v1 := (.slice (some ⟨go36, 0, none⟩) x12_1.length co36)) (ok := (fun k_ => some k_ ≠ (v111 : Value).ownBlock ∧ some k_ ≠ (v123 : Value).ownBlock)) (by (with_reducible repeat (first | apply Kd.S_alloc | apply Kd.S_drewN | apply Kd.S_drew)); exact Kd.S_mono HO_9.out (fun _ hk => ⟨⟨hk.1, hk.2.1⟩, hk.2.2⟩)) hg (.inl rfl)); replace HO_10 := Aside0.mk (Kd.R_after (v := (.slice (some ⟨go36, 0, none⟩) x12_1.length co36)) (v1 := (.slice (some ⟨go36, 0, none⟩) x12_1.length co36)) (ok := (fun k_ => some k_ ≠ (v123 : Value).ownBlock)) (ur HO_10) hg (.inl rfl)); replace HO_11 := Aside0.mk (Kd.R_after (v := (.slice (some ⟨go36, 0, none⟩) x12_1.length co36)) (v1 := (.slice (some ⟨go36, 0, none⟩) x12_1.length co36)) (ok := (fun k_ => some k_ ≠ (v111 : Value).ownBlock)) (ur HO_11) hg (.inl rfl)); replace BK101 := bg BK101 hg (Kd.R_ne HO_12.out BK101.out (by decide)); replace HO_12 := Aside0.mk (hp_); replace HB := Aside0.mk ((by rw [hw]; exact below_set (HB.out) GB36.out : Below w.heap.size w w60)); clear hg hw hp_))
                replace HO_9 := Aside0.mk (Kd.S_drew HO_9.out); replace HO_10 := Aside0.mk (Kd.R_drew HO_10.out); replace HO_11 := Aside0.mk (Kd.R_drew HO_11.out); replace HO_12 := Aside0.mk (Kd.R_drew HO_12.out); replace BK101 := Aside0.mk (blk_drew BK101.out); replace HB := Aside0.mk (below_drew1 HB.out); have p129 : 0 ≤ (x13_1 : Int) := ua; have q129 : x13_1 < (l1.length : Int) := ua; obtain ⟨ad129, e129, hx129_0⟩ := Kd.at_int HR1.out x13_1 p129 q129; have hw129_0 := hx129_0; obtain rfl : ad105 = ad129 := (by injection e129)
                replace hx129_0 := uc HB hx129_0; replace p129 := eq_true p129; replace q129 := eq_true q129; have p130 : 0 ≤ (a2 : Int) := ua; have q130 : a2 < (l1.length : Int) := ua; obtain ⟨ad130, e130, hx130_0⟩ := Kd.at_int HR1.out a2 p130 q130; have hw130_0 := hx130_0; obtain rfl : ad105 = ad130 := (by injection e130)
                replace hx130_0 := uc HB hx130_0; replace p130 := eq_true p130; replace q130 := eq_true q130; refine start_ (n := 15) (S := fun w' => w'.cell? (ad105.add (x13_1).toNat) = some (.int .i64 (rd l1 x13_1)) ∧ w'.cell? (ad105.add (a2).toNat) = some (.int .i64 (rd l1 a2))) (ds := []) (zt 15 0) (by kernel_rfl) rfl (by kernel_rfl) ⟨(ud HB hw129_0), (ud HB hw130_0)⟩ (fun hHeld => ?_); refine with_tabW spec_l10Best.tab9 spec_l10Best.bits9 (fun HT_ HW_ => ?_); generalize w60.drew = w61 at HO_9 HO_10 HO_11 HO_12 BK101 HB hx129_0 hx130_0 hHeld ⊢; refine qz HT_ 0 ?_; refine qz HT_ 1 ?_; refine qz HT_ 2 ?_; refine qz HT_ 4 ?_; refine qz HT_ 5 ?_; refine qz HT_ 6 ?_; refine qt HT_ HW_ hHeld 3 ?_; refine qt HT_ HW_ hHeld 7 ?_; refine qz HT_ 8 ?_; refine qz HT_ 9 ?_; refine qn HT_ 10 ?_; refine qn HT_ 11 ?_; refine qn HT_ 12 ?_; refine qn HT_ 13 ?_; refine qz HT_ 14 ?_; refine done_ (done_of HT_.out (by kernel_rfl)) ?_; try go_wp2
                go_roundg k1
                case measure => have := HK1.out; omega
                case rel => exact ⟨(y128), (wrap64 (x13_1 + 1)), ue, H', ⟨by have := HK1.out; omega⟩, ⟨by (with_reducible repeat (first | apply Kd.S_alloc | apply Kd.S_drewN | apply Kd.S_drew)); exact Kd.S_mono HO_9.out (fun _ hk => ⟨hk.1.1, ⟨hk.1.2, hk.2⟩⟩)⟩, ⟨ur HO_10⟩, ⟨ur HO_11⟩, ⟨ur HO_12⟩, ⟨ub BK101⟩, ⟨uB1 HB GE101.out⟩⟩
              ·
               rw [if_neg c39] at H; exact absurd H (by simp)
             ·
              rw [if_neg c38] at H; exact absurd H (by simp)
            ·
             rw [if_neg c37] at H; exact absurd H (by simp)
           ·
            rw [if_neg c35] at H; exact absurd H (by simp)
          ·
           rw [if_neg c34] at H; exact absurd H (by simp)
         ·
          rw [if_neg c33] at H; have c33b0 := DL c33; clear c33; have H' := Aside0.mk H; clear H; obtain ⟨hcz62_0, hcz62_1, hfz62_0, hfz62_1⟩ := bc2 BK101; go_wp2; go_loopg [14] k1 (fun kq v14 w' => ∃ (x12_2 : List Int) (x14_2 : Int), v14 = .int .i64 x14_2 ∧ Aside0 (spec_l10Best.l1 kq l1 a2 a3 t102 t110 t122 x12_2 x14_2 a0_0 l0_1 = some r) ∧ Aside0 (kq ≤ k1) ∧ Aside0 (Kd.S (Kd.slice 3 (Kd.int .i64)) 26 w' w.heap.size (fun k_ => some k_ ≠ (v111 : Value).ownBlock ∧ some k_ ≠ (v123 : Value).ownBlock ∧ some k_ ≠ (v126 : Value).ownBlock) v103 t102) ∧ Aside0 (Kd.R (Kd.int .i64) 3 w' w.heap.size (fun k_ => some k_ ≠ (v123 : Value).ownBlock ∧ some k_ ≠ (v126 : Value).ownBlock) v111 t110) ∧ Aside0 (Kd.R (Kd.int .i64) 3 w' w.heap.size (fun k_ => some k_ ≠ (v111 : Value).ownBlock ∧ some k_ ≠ (v126 : Value).ownBlock) v123 t122) ∧ Aside0 (Kd.R (Kd.int .i64) 3 w' w.heap.size (fun k_ => some k_ ≠ (v111 : Value).ownBlock ∧ some k_ ≠ (v123 : Value).ownBlock) v126 x12_2) ∧ Aside0 (w'.heap[gb101]? = some (.cells #[.int .i64 a0_0, (.slice A0_1 l0_1.length c0_1)] 25 (0, 0))) ∧ Aside0 (Below w.heap.size w w'))
          case atStart => exact ⟨(x12_1), (0), ue, H', ⟨Nat.le_refl _⟩, ⟨by (with_reducible repeat (first | apply Kd.S_alloc | apply Kd.S_drewN | apply Kd.S_drew)); exact HO_9.out⟩, ⟨ur HO_10⟩, ⟨ur HO_11⟩, ⟨ur HO_12⟩, ⟨ub BK101⟩, ⟨uB1 HB GE101.out⟩⟩
          case round =>
           clear H'; try clear c1
           try clear p1
           try clear q1
           try clear hx1
           try clear p2
           try clear c3
           try clear p3
           try clear q3
           try clear hx3
           try clear c4
           try clear p4
           try clear q4
           try clear hx4
           try clear hf4
           try clear p6
           try clear c7
           try clear p12
           try clear q12
           try clear hx12
           try clear p13
           try clear q13
           try clear hx13
           try clear c33
           try clear c33b0
           try clear c34
           try clear c35
           try clear p36
           try clear q36
           try clear hx36
           try clear hf36
           try clear c37
           try clear c38
           try clear c39
           try clear c40
           try clear c40b0
           try clear c40b1
           try clear c42
           try clear c43
           try clear p44
           try clear q44
           try clear hx44
           try clear hf44
           try clear hcz53_0 hcz53_1
           try clear hcz58_0 hcz58_1
           try clear hcz62_0 hcz62_1
           try clear hfz53_0 hfz53_1
           try clear hfz58_0 hfz58_1
           try clear hfz62_0 hfz62_1
           try clear hx129_0
           try clear hx130_0
           try clear hx132_0
           try clear hx36_0
           try clear hx44_0
           try clear p129
           try clear p130
           try clear p132
           try clear p36
           try clear p44
           try clear q129
           try clear q130
           try clear q132
           try clear q36
           try clear q44
           obtain ⟨x12_2, x14_2, rfl, HA, HK2, HO_9, HO_10, HO_11, HO_12, BK101, HB⟩ := hrel
           cases gk with
           | zero => exact absurd HA.out (by simp [spec_l10Best.l1])
           | succ k2 =>
            have H := HA.out; clear HA; simp only [spec_l10Best.l1] at H; by_cases c63 : x14_2 < a0_0
            ·
             rw [if_pos c63] at H; have c63b0 := dl c63; clear c63; have H' := Aside0.mk H; clear H; obtain ⟨hcz64_0, hcz64_1, hfz64_0, hfz64_1⟩ := bc2 BK101; go_wp2; go_loopg [15] k2 (fun kq v15 w' => ∃ (x12_3 : List Int) (x15_3 : Int), v15 = .int .i64 x15_3 ∧ Aside0 (spec_l10Best.l2 kq l1 a2 a3 t102 t110 t122 x12_3 x14_2 x15_3 a0_0 l0_1 = some r) ∧ Aside0 (kq ≤ k2) ∧ Aside0 (Kd.S (Kd.slice 3 (Kd.int .i64)) 26 w' w.heap.size (fun k_ => some k_ ≠ (v111 : Value).ownBlock ∧ some k_ ≠ (v123 : Value).ownBlock ∧ some k_ ≠ (v126 : Value).ownBlock) v103 t102) ∧ Aside0 (Kd.R (Kd.int .i64) 3 w' w.heap.size (fun k_ => some k_ ≠ (v123 : Value).ownBlock ∧ some k_ ≠ (v126 : Value).ownBlock) v111 t110) ∧ Aside0 (Kd.R (Kd.int .i64) 3 w' w.heap.size (fun k_ => some k_ ≠ (v111 : Value).ownBlock ∧ some k_ ≠ (v126 : Value).ownBlock) v123 t122) ∧ Aside0 (Kd.R (Kd.int .i64) 3 w' w.heap.size (fun k_ => some k_ ≠ (v111 : Value).ownBlock ∧ some k_ ≠ (v123 : Value).ownBlock) v126 x12_3) ∧ Aside0 (w'.heap[gb101]? = some (.cells #[.int .i64 a0_0, (.slice A0_1 l0_1.length c0_1)] 25 (0, 0))) ∧ Aside0 (Below w.heap.size w w'))
             case atStart => exact ⟨(x12_2), (0), ue, H', ⟨Nat.le_refl _⟩, ⟨by (with_reducible repeat (first | apply Kd.S_alloc | apply Kd.S_drewN | apply Kd.S_drew)); exact HO_9.out⟩, ⟨ur HO_10⟩, ⟨ur HO_11⟩, ⟨ur HO_12⟩, ⟨ub BK101⟩, ⟨uB1 HB GE101.out⟩⟩
             case round =>
              clear H'; try clear c1
              try clear p1
              try clear q1
              try clear hx1
              try clear p2
              try clear c3
              try clear p3
              try clear q3
              try clear hx3
              try clear c4
              try clear p4
              try clear q4
              try clear hx4
              try clear hf4
              try clear c6
              try clear p6
              try clear c7
              try clear p12
              try clear q12
              try clear hx12
              try clear p13
              try clear q13
              try clear hx13
              try clear c33
              try clear c33b0
              try clear c34
              try clear c35
              try clear p36
              try clear q36
              try clear hx36
              try clear hf36
              try clear c37
              try clear c38
              try clear c39
              try clear c40
              try clear c40b0
              try clear c40b1
              try clear c42
              try clear c43
              try clear p44
              try clear q44
              try clear hx44
              try clear hf44
              try clear c63
              try clear c63b0
              try clear p64
              try clear hcz53_0 hcz53_1
              try clear hcz58_0 hcz58_1
              try clear hcz62_0 hcz62_1
              try clear hcz64_0 hcz64_1
              try clear hfz53_0 hfz53_1
              try clear hfz58_0 hfz58_1
              try clear hfz62_0 hfz62_1
              try clear hfz64_0 hfz64_1
              try clear hx129_0
              try clear hx130_0
              try clear hx132_0
              try clear hx36_0
              try clear hx44_0
              try clear p1
              try clear p12
              try clear p129
              try clear p13
              try clear p130
              try clear p132
              try clear p2
              try clear p3
              try clear p36
              try clear p4
              try clear p44
              try clear p6
              try clear q1
              try clear q12
              try clear q129
              try clear q13
              try clear q130
              try clear q132
              try clear q3
              try clear q36
              try clear q4
              try clear q44
              obtain ⟨x12_3, x15_3, rfl, HA, HK3, HO_9, HO_10, HO_11, HO_12, BK101, HB⟩ := hrel
              cases gk with
              | zero => exact absurd HA.out (by simp [spec_l10Best.l2])
              | succ k3 =>
               have H := HA.out; clear HA; simp only [spec_l10Best.l2] at H; by_cases c65 : x15_3 < a0_0
               ·
                rw [if_pos c65] at H; have c65b0 := dl c65; clear c65; have H' := Aside0.mk H; clear H; obtain ⟨hcz66_0, hcz66_1, hfz66_0, hfz66_1⟩ := bc2 BK101; go_wp2; go_loopg [16] k3 (fun kq v16 w' => ∃ (x12_4 : List Int) (x16_4 : Int), v16 = .int .i64 x16_4 ∧ Aside0 (spec_l10Best.l3 kq l1 a2 a3 t102 t110 t122 x12_4 x14_2 x15_3 x16_4 a0_0 l0_1 = some r) ∧ Aside0 (kq ≤ k3) ∧ Aside0 (Kd.S (Kd.slice 3 (Kd.int .i64)) 26 w' w.heap.size (fun k_ => some k_ ≠ (v111 : Value).ownBlock ∧ some k_ ≠ (v123 : Value).ownBlock ∧ some k_ ≠ (v126 : Value).ownBlock) v103 t102) ∧ Aside0 (Kd.R (Kd.int .i64) 3 w' w.heap.size (fun k_ => some k_ ≠ (v123 : Value).ownBlock ∧ some k_ ≠ (v126 : Value).ownBlock) v111 t110) ∧ Aside0 (Kd.R (Kd.int .i64) 3 w' w.heap.size (fun k_ => some k_ ≠ (v111 : Value).ownBlock ∧ some k_ ≠ (v126 : Value).ownBlock) v123 t122) ∧ Aside0 (Kd.R (Kd.int .i64) 3 w' w.heap.size (fun k_ => some k_ ≠ (v111 : Value).ownBlock ∧ some k_ ≠ (v123 : Value).ownBlock) v126 x12_4) ∧ Aside0 (w'.heap[gb101]? = some (.cells #[.int .i64 a0_0, (.slice A0_1 l0_1.length c0_1)] 25 (0, 0))) ∧ Aside0 (Below w.heap.size w w'))
                case atStart => exact ⟨(x12_3), (0), ue, H', ⟨Nat.le_refl _⟩, ⟨by (with_reducible repeat (first | apply Kd.S_alloc | apply Kd.S_drewN | apply Kd.S_drew)); exact HO_9.out⟩, ⟨ur HO_10⟩, ⟨ur HO_11⟩, ⟨ur HO_12⟩, ⟨ub BK101⟩, ⟨uB1 HB GE101.out⟩⟩
                case round =>
                 as_aux_lemma =>
                  clear H'; try clear c1
                  try clear p1
                  try clear q1
                  try clear hx1
                  try clear p2
                  try clear c3
                  try clear p3
                  try clear q3
                  try clear hx3
                  try clear c4
                  try clear p4
                  try clear q4
                  try clear hx4
                  try clear hf4
                  try clear c6
                  try clear p6
                  try clear c7
                  try clear p12
                  try clear q12
                  try clear hx12
                  try clear p13
                  try clear q13
                  try clear hx13
                  try clear c33
                  try clear c33b0
                  try clear c34
                  try clear c35
                  try clear p36
                  try clear q36
                  try clear hx36
                  try clear hf36
                  try clear c37
                  try clear c38
                  try clear c39
                  try clear c40
                  try clear c40b0
                  try clear c40b1
                  try clear c42
                  try clear c43
                  try clear p44
                  try clear q44
                  try clear hx44
                  try clear hf44
                  try clear c63
                  try clear c63b0
                  try clear p64
                  try clear c65
                  try clear c65b0
                  try clear hcz53_0 hcz53_1
                  try clear hcz58_0 hcz58_1
                  try clear hcz62_0 hcz62_1
                  try clear hcz64_0 hcz64_1
                  try clear hcz66_0 hcz66_1
                  try clear hfz53_0 hfz53_1
                  try clear hfz58_0 hfz58_1
                  try clear hfz62_0 hfz62_1
                  try clear hfz64_0 hfz64_1
                  try clear hfz66_0 hfz66_1
                  try clear hx129_0
                  try clear hx130_0
                  try clear hx132_0
                  try clear hx36_0
                  try clear hx44_0
                  try clear p1
                  try clear p12
                  try clear p129
                  try clear p13
                  try clear p130
                  try clear p132
                  try clear p2
                  try clear p3
                  try clear p36
                  try clear p4
                  try clear p44
                  try clear p6
                  try clear p64
                  try clear q1
                  try clear q12
                  try clear q129
                  try clear q13
                  try clear q130
                  try clear q132
                  try clear q3
                  try clear q36
                  try clear q4
                  try clear q44
                  obtain ⟨x12_4, x16_4, rfl, HA, HK4, HO_9, HO_10, HO_11, HO_12, BK101, HB⟩ := hrel
                  cases gk with
                  | zero => exact absurd HA.out (by simp [spec_l10Best.l3])
                  | succ k4 =>
                   have H := HA.out; clear HA; simp only [spec_l10Best.l3] at H; by_cases c67 : x16_4 < a0_0
                   ·
                    rw [if_pos c67] at H; have c67b0 := dl c67; clear c67; by_cases c68 : 0 ≤ x15_3
                    ·
                     rw [if_pos c68] at H; have c68b0 := de c68; clear c68; by_cases c69 : x15_3 < (x12_4.length : Int)
                     ·
                      rw [if_pos c69] at H; have c69b0 := dl c69; clear c69; by_cases c70 : (rd x12_4 x15_3) < 99999
                      ·
                       rw [if_pos c70] at H; have c70b0 := dl c70; clear c70; by_cases c71 : x15_3 < (t102.length : Int)
                       ·
                        rw [if_pos c71] at H; have c71b0 := dl c71; clear c71; by_cases c72 : 0 ≤ x16_4
                        ·
                         rw [if_pos c72] at H; have c72b0 := de c72; clear c72; by_cases c73 : x16_4 < ((rd_L5 t102 x15_3).length : Int)
                         ·
                          rw [if_pos c73] at H; have c73b0 := dl c73; clear c73; by_cases c74 : (rd (rd_L5 t102 x15_3) x16_4) < 99999
                          ·
                           rw [if_pos c74] at H; have c74b0 := dl c74; clear c74; by_cases c75 : x16_4 < (x12_4.length : Int)
                           ·
                            rw [if_pos c75] at H; have c75b0 := dl c75; clear c75; by_cases c76 : (wrap64 ((rd x12_4 x15_3) + (rd (rd_L5 t102 x15_3) x16_4))) < (rd x12_4 x16_4)
                            ·
                             rw [if_pos c76] at H; have c76b0 := dl c76; clear c76; obtain ⟨y144, hy144⟩ : ∃ y_ : List Int, y_ = (x12_4.set (x16_4 : Int).toNat (wrap64 ((rd x12_4 x15_3) + (rd (rd_L5 t102 x15_3) x16_4)))) := ⟨_, rfl⟩
                             replace H : (spec_l10Best.l3 k4 l1 a2 a3 t102 t110 t122 y144 x14_2 x15_3 (wrap64 (x16_4 + 1)) a0_0 l0_1) = some r := by first | (rw [hy144]; with_reducible exact H) | (have H2_ := (Option.bind_some _ _).symm.trans H; rw [hy144]; with_reducible exact H2_) | (have H2_ := (Option.bind_some _ _).symm.trans H; with_reducible exact H2_) | with_reducible exact H | (rw [hy144]; exact H) | exact H
                             have Ny144 := Aside0.mk hy144; clear hy144; have H' := Aside0.mk H; clear H; obtain ⟨hcz78_0, hcz78_1, hfz78_0, hfz78_1⟩ := bc2 BK101; try go_wp2
                             replace HO_9 := Aside0.mk (Kd.S_drew HO_9.out); replace HO_10 := Aside0.mk (Kd.R_drew HO_10.out); replace HO_11 := Aside0.mk (Kd.R_drew HO_11.out); replace HO_12 := Aside0.mk (Kd.R_drew HO_12.out); replace BK101 := Aside0.mk (blk_drew BK101.out); replace HB := Aside0.mk (below_drew1 HB.out); obtain ⟨Ao80, co80, eo80⟩ := Kd.R_slice HO_12.out; (first | subst eo80 | (injection eo80 with f1_ f2_ f3_; have f4_ := f1_.symm; have f5_ := f3_.symm; clear f1_ f2_ f3_; subst f4_; subst f5_)); have p134 : 0 ≤ (x15_3 : Int) := ua; have q134 : x15_3 < (x12_4.length : Int) := ua; obtain ⟨ad134, e134, hx134_0⟩ := Kd.at_int (Kd.R_reads' HO_12.out).2.2 x15_3 p134 q134
                             cases e134
                             replace p134 := eq_true p134; replace q134 := eq_true q134; obtain ⟨Ao81, co81, eo81⟩ := Kd.S_slice HO_9.out; (first | subst eo81 | (injection eo81 with f1_ f2_ f3_; have f4_ := f1_.symm; have f5_ := f3_.symm; clear f1_ f2_ f3_; subst f4_; subst f5_)); have p135 : 0 ≤ (x15_3 : Int) := ua; have q135 : x15_3 < (t102.length : Int) := ua; obtain ⟨ad135, A135_0, c135_0, e135, hx135_0, hl135_0, hi135_0⟩ := at_L5 (Kd.S_reads' HO_9.out).2.2 x15_3 p135 q135
                             cases e135
                             obtain ⟨ce135, hce135, hMe135, hcc135⟩ := Kd.S_get HO_9.out [] x15_3 p135 (by first | exact q135 | exact ua | (have e_ := (Kd.S_reads' HO_9.out).1; omega)); obtain ⟨ve135_0, rfl, ge135_0⟩ := hMe135; have hv135_0 := hcc135 0 _ rfl; rw [Nat.add_zero, show ((Kd.slice 3 (Kd.int .i64))).sz = 1 from rfl, Nat.mul_one] at hv135_0; replace hv135_0 := Option.some.inj (hv135_0.symm.trans hx135_0); rw [hv135_0] at ge135_0; have HL135_0 := Aside0.mk (show Kd.R (Kd.int .i64) 3 _ _ _ _ (rd_L5 t102 x15_3) from ge135_0); clear hv135_0 ge135_0; clear hcc135 hce135; have HR135_0 := Aside0.mk hi135_0; have HC135_0 := Aside0.mk hl135_0; clear hi135_0 hl135_0; replace p135 := eq_true p135; replace q135 := eq_true q135; have p136 : 0 ≤ (x16_4 : Int) := ua; have q136 : x16_4 < ((rd_L5 t102 x15_3).length : Int) := ua; obtain ⟨ad136, e136, hx136_0⟩ := Kd.at_int (by repeat (first | (with_reducible exact HR135_0.out) | (with_reducible refine Kd.C_alloc ?_ _) | (with_reducible refine Kd.C_drewN ?_ _) | (with_reducible refine Kd.C_drew ?_) | exact HR135_0.out)) x16_4 p136 q136
                             cases e136
                             replace p136 := eq_true p136; replace q136 := eq_true q136; have p137 : 0 ≤ (x15_3 : Int) := ua; have q137 : x15_3 < (x12_4.length : Int) := ua; obtain ⟨ad137, e137, hx137_0⟩ := Kd.at_int (Kd.R_reads' HO_12.out).2.2 x15_3 p137 q137; obtain rfl : ad134 = ad137 := (by injection e137)
                             replace p137 := eq_true p137; replace q137 := eq_true q137; have p138 : 0 ≤ (x15_3 : Int) := ua; have q138 : x15_3 < (t102.length : Int) := ua; obtain ⟨ad138, A138_0, c138_0, e138, hx138_0, hl138_0, hi138_0⟩ := at_L5 (Kd.S_reads' HO_9.out).2.2 x15_3 p138 q138; obtain rfl : ad135 = ad138 := (by injection e138)
                             obtain ⟨ce138, hce138, hMe138, hcc138⟩ := Kd.S_get HO_9.out [] x15_3 p138 (by first | exact q138 | exact ua | (have e_ := (Kd.S_reads' HO_9.out).1; omega)); obtain ⟨ve138_0, rfl, ge138_0⟩ := hMe138; have hv138_0 := hcc138 0 _ rfl; rw [Nat.add_zero, show ((Kd.slice 3 (Kd.int .i64))).sz = 1 from rfl, Nat.mul_one] at hv138_0; replace hv138_0 := Option.some.inj (hv138_0.symm.trans hx138_0); rw [hv138_0] at ge138_0; have HL138_0 := Aside0.mk (show Kd.R (Kd.int .i64) 3 _ _ _ _ (rd_L5 t102 x15_3) from ge138_0); clear hv138_0 ge138_0; clear hcc138 hce138; have HR138_0 := Aside0.mk hi138_0; have HC138_0 := Aside0.mk hl138_0; clear hi138_0 hl138_0; replace p138 := eq_true p138; replace q138 := eq_true q138; have ea_ := Option.some.inj (hx135_0.symm.trans hx138_0); injection ea_ with ea_ en_ ec_
                             subst ea_; subst ec_; clear en_; have p139 : 0 ≤ (x16_4 : Int) := ua; have q139 : x16_4 < ((rd_L5 t102 x15_3).length : Int) := ua; obtain ⟨ad139, e139, hx139_0⟩ := Kd.at_int (by repeat (first | (with_reducible exact HR138_0.out) | (with_reducible refine Kd.C_alloc ?_ _) | (with_reducible refine Kd.C_drewN ?_ _) | (with_reducible refine Kd.C_drew ?_) | exact HR138_0.out)) x16_4 p139 q139
                             cases e139
                             replace p139 := eq_true p139; replace q139 := eq_true q139; have p140 : 0 ≤ (x16_4 : Int) := ua; have q140 : x16_4 < (x12_4.length : Int) := ua; obtain ⟨ad140, e140, hx140_0⟩ := Kd.at_int (Kd.R_reads' HO_12.out).2.2 x16_4 p140 q140; obtain rfl : ad134 = ad140 := (by injection e140)
                             replace p140 := eq_true p140; replace q140 := eq_true q140; refine start_ (n := 34) (S := fun w' => w'.cell? (ad134.add (x15_3).toNat) = some (.int .i64 (rd x12_4 x15_3)) ∧ w'.cell? (ad135.add (x15_3).toNat) = some (.slice (some ad136) (rd_L5 t102 x15_3).length c135_0) ∧ w'.cell? (ad136.add (x16_4).toNat) = some (.int .i64 (rd (rd_L5 t102 x15_3) x16_4)) ∧ w'.cell? (ad134.add (x15_3).toNat) = some (.int .i64 (rd x12_4 x15_3)) ∧ w'.cell? (ad135.add (x15_3).toNat) = some (.slice (some ad136) (rd_L5 t102 x15_3).length c135_0) ∧ w'.cell? (ad136.add (x16_4).toNat) = some (.int .i64 (rd (rd_L5 t102 x15_3) x16_4)) ∧ w'.cell? (ad134.add (x16_4).toNat) = some (.int .i64 (rd x12_4 x16_4))) (ds := []) (zt 34 0) (by kernel_rfl) rfl (by kernel_rfl) ⟨hx134_0, hx135_0, hx136_0, hx137_0, hx138_0, hx139_0, hx140_0⟩ (fun hHeld => ?_); refine with_tabW spec_l10Best.tab20 spec_l10Best.bits20 (fun HT_ HW_ => ?_); generalize wr.drew = w79 at HO_9 HO_10 HO_11 HO_12 BK101 HB HL135_0 HL138_0 HR135_0 HR138_0 hx134_0 hx135_0 hx136_0 hx137_0 hx138_0 hx139_0 hx140_0 hHeld ⊢; refine qz HT_ 0 ?_; refine qz HT_ 1 ?_; refine qz HT_ 2 ?_; refine qt HT_ HW_ hHeld 3 ?_; refine qz HT_ 4 ?_; refine qz HT_ 5 ?_; refine qz HT_ 6 ?_; refine qz HT_ 7 ?_; refine qz HT_ 8 ?_; refine qz HT_ 10 ?_; refine qt HT_ HW_ hHeld 9 ?_; refine qz HT_ 11 ?_; refine qt HT_ HW_ hHeld 12 ?_; refine qz HT_ 13 ?_; refine qz HT_ 14 ?_; refine qz HT_ 15 ?_; refine qz HT_ 16 ?_; refine qz HT_ 17 ?_; refine qz HT_ 18 ?_; refine qz HT_ 20 ?_; refine qz HT_ 21 ?_; refine qz HT_ 22 ?_; refine qz HT_ 24 ?_; refine qz HT_ 28 ?_; refine qz HT_ 29 ?_; refine qz HT_ 30 ?_; refine qt HT_ HW_ hHeld 19 ?_; refine qt HT_ HW_ hHeld 23 ?_; refine qz HT_ 25 ?_; refine qt HT_ HW_ hHeld 26 ?_; refine qz HT_ 27 ?_; refine qt HT_ HW_ hHeld 31 ?_; refine qz HT_ 32 ?_; refine qz HT_ 33 ?_; refine done_ (done_of HT_.out (by kernel_rfl)) ?_; try go_wp2
                             replace HO_9 := Aside0.mk (Kd.S_drew HO_9.out); replace HO_10 := Aside0.mk (Kd.R_drew HO_10.out); replace HO_11 := Aside0.mk (Kd.R_drew HO_11.out); replace HO_12 := Aside0.mk (Kd.R_drew HO_12.out); replace HL135_0 := Aside0.mk (Kd.R_drew HL135_0.out); replace HL138_0 := Aside0.mk (Kd.R_drew HL138_0.out); replace BK101 := Aside0.mk (blk_drew BK101.out); replace HR135_0 := Aside0.mk (Kd.C_drew HR135_0.out); replace HR138_0 := Aside0.mk (Kd.C_drew HR138_0.out); replace HB := Aside0.mk (below_drew1 HB.out); have p141 : 0 ≤ (x15_3 : Int) := ua; have q141 : x15_3 < (x12_4.length : Int) := ua; obtain ⟨ad141, e141, hx141_0⟩ := Kd.at_int (Kd.R_reads' HO_12.out).2.2 x15_3 p141 q141; obtain rfl : ad134 = ad141 := (by injection e141)
                             replace p141 := eq_true p141; replace q141 := eq_true q141; have p142 : 0 ≤ (x15_3 : Int) := ua; have q142 : x15_3 < (t102.length : Int) := ua; obtain ⟨ad142, A142_0, c142_0, e142, hx142_0, hl142_0, hi142_0⟩ := at_L5 (Kd.S_reads' HO_9.out).2.2 x15_3 p142 q142; obtain rfl : ad135 = ad142 := (by injection e142)
                             obtain ⟨ce142, hce142, hMe142, hcc142⟩ := Kd.S_get HO_9.out [] x15_3 p142 (by first | exact q142 | exact ua | (have e_ := (Kd.S_reads' HO_9.out).1; omega)); obtain ⟨ve142_0, rfl, ge142_0⟩ := hMe142; have hv142_0 := hcc142 0 _ rfl; rw [Nat.add_zero, show ((Kd.slice 3 (Kd.int .i64))).sz = 1 from rfl, Nat.mul_one] at hv142_0; replace hv142_0 := Option.some.inj (hv142_0.symm.trans hx142_0); rw [hv142_0] at ge142_0; have HL142_0 := Aside0.mk (show Kd.R (Kd.int .i64) 3 _ _ _ _ (rd_L5 t102 x15_3) from ge142_0); clear hv142_0 ge142_0; clear hcc142 hce142; have HR142_0 := Aside0.mk hi142_0; have HC142_0 := Aside0.mk hl142_0; clear hi142_0 hl142_0; replace p142 := eq_true p142; replace q142 := eq_true q142; have p143 : 0 ≤ (x16_4 : Int) := ua; have q143 : x16_4 < ((rd_L5 t102 x15_3).length : Int) := ua; obtain ⟨ad143, e143, hx143_0⟩ := Kd.at_int (by repeat (first | (with_reducible exact HR142_0.out) | (with_reducible refine Kd.C_alloc ?_ _) | (with_reducible refine Kd.C_drewN ?_ _) | (with_reducible refine Kd.C_drew ?_) | exact HR142_0.out)) x16_4 p143 q143
                             cases e143
                             replace p143 := eq_true p143; replace q143 := eq_true q143; have p77 : 0 ≤ (x16_4 : Int) := ua; have q77 : (x16_4 : Int) < ((x12_4.length : Int) : Int) := ua; obtain ⟨go77, co77, eo77, gb77, gl77, cl77, HG77⟩ := Kd.R_form HO_12.out (by omega); (first | cases eo77 | (injection eo77 with ea_ en_ ec_; (first | subst ea_ | (injection ea_ with ea_; subst ea_)); subst ec_; clear en_)); have GB77 := Aside0.mk gb77; have GG77 := Aside0.mk HG77; clear gb77 gl77 HG77; (first | simp only [add_plain] at hx134_0 | skip); (first | simp only [add_plain] at hx137_0 | skip); (first | simp only [add_plain] at hx140_0 | skip); (first | simp only [add_plain] at hx141_0 | skip); obtain ⟨hx77_0, hf77_0⟩ := Kd.R_celln 0 HO_12.out (x16_4 : Int) p77 q77; replace p77 := eq_true p77; replace q77 := eq_true q77; have HP83 := Kd.R_putn HO_12.out (x16_4 : Int) (wrap64 ((rd x12_4 x15_3) + (rd (rd_L5 t102 x15_3) x16_4))); rw [← Ny144.out] at HP83; have HQ83 := Aside0.mk HP83; clear HP83; refine start_ (n := 16) (S := fun w' => w'.cell? ⟨go77, (x15_3).toNat, none⟩ = some (.int .i64 (rd x12_4 x15_3)) ∧ w'.cell? (ad135.add (x15_3).toNat) = some (.slice (some ad143) (rd_L5 t102 x15_3).length c142_0) ∧ w'.cell? (ad143.add (x16_4).toNat) = some (.int .i64 (rd (rd_L5 t102 x15_3) x16_4))) (ds := [15]) (zt 16 0) (by kernel_rfl) rfl (by kernel_rfl) ⟨hx141_0, hx142_0, hx143_0⟩ (fun hHeld => ?_); refine with_tabW spec_l10Best.tab21 spec_l10Best.bits21 (fun HT_ HW_ => ?_); generalize w79.drew = w82 at HO_9 HO_10 HO_11 HO_12 HL135_0 HL138_0 BK101 HR135_0 HR138_0 HB GG77 HL142_0 HQ83 HR142_0 hf77_0 hx134_0 hx137_0 hx140_0 hx141_0 hx142_0 hx143_0 hx77_0 hHeld ⊢; refine qz HT_ 0 ?_; refine qz HT_ 1 ?_; refine qz HT_ 2 ?_; refine qz HT_ 3 ?_; refine qz HT_ 4 ?_; refine qz HT_ 6 ?_; refine qz HT_ 7 ?_; refine qz HT_ 8 ?_; refine qz HT_ 10 ?_; refine qt HT_ HW_ hHeld 5 ?_; refine qt HT_ HW_ hHeld 9 ?_; refine qz HT_ 11 ?_; refine qt HT_ HW_ hHeld 12 ?_; refine qz HT_ 13 ?_; refine qz HT_ 14 ?_; refine last_ (i := 15) (N := none) (zt 16 65535) rfl rfl (one_of HT_.out (by kernel_rfl)) (by decide) (fun K hK => ?_); refine skip_ (w1 := ?_) (by rfl) rfl ?_ ?_; rotate_left
                             ·
                              go_simp; rfl
                             refine hK.out _ _ ?_; clear hK K; refine done_ (done_of HT_.out (by kernel_rfl)) ?_; try go_wp2
                             go_roundg k4
                             case measure => have := HK1.out; have := HK2.out; have := HK3.out; have := HK4.out; omega
                             case rel => exact ⟨(y144), (wrap64 (x16_4 + 1)), ue, H', ⟨by have := HK1.out; have := HK2.out; have := HK3.out; have := HK4.out; omega⟩, ⟨by (with_reducible repeat (first | apply Kd.S_alloc | apply Kd.S_drewN | apply Kd.S_drew)); exact Kd.S_mono (Kd.S_far (p := ⟨go77, (x16_4 : Int).toNat, none⟩) (Kd.S_mono HO_9.out (fun k_ hk => (⟨hk, fun e_ => hk.2.2 (by rw [e_]; rfl)⟩ : _ ∧ k_ ≠ go77))) (fun _ hk => hk.2) (.int .i64 (wrap64 ((rd x12_4 x15_3) + (rd (rd_L5 t102 x15_3) x16_4))))) (fun _ hk => ⟨hk.1.1, ⟨hk.1.2.1, hk.1.2.2⟩⟩)⟩, ⟨by (with_reducible repeat (first | apply Kd.R_alloc | apply Kd.R_drewN | apply Kd.R_drew)); exact Kd.R_mono (Kd.R_far (p := ⟨go77, (x16_4 : Int).toNat, none⟩) (Kd.R_mono HO_10.out (fun k_ hk => (⟨hk, fun e_ => hk.2 (by rw [e_]; rfl)⟩ : _ ∧ k_ ≠ go77))) (fun _ hk => hk.2) (.int .i64 (wrap64 ((rd x12_4 x15_3) + (rd (rd_L5 t102 x15_3) x16_4))))) (fun _ hk => ⟨hk.1.1, hk.1.2⟩)⟩, ⟨by (with_reducible repeat (first | apply Kd.R_alloc | apply Kd.R_drewN | apply Kd.R_drew)); exact Kd.R_mono (Kd.R_far (p := ⟨go77, (x16_4 : Int).toNat, none⟩) (Kd.R_mono HO_11.out (fun k_ hk => (⟨hk, fun e_ => hk.2 (by rw [e_]; rfl)⟩ : _ ∧ k_ ≠ go77))) (fun _ hk => hk.2) (.int .i64 (wrap64 ((rd x12_4 x15_3) + (rd (rd_L5 t102 x15_3) x16_4))))) (fun _ hk => ⟨hk.1.1, hk.1.2⟩)⟩, ⟨ur HQ83⟩, ⟨by (with_reducible repeat first | apply zbn | apply zbd | apply zba); refine blk_far ?_ (by have h_ := Kd.R_ne HO_12.out BK101.out (by decide); intro e_; exact h_ (by rw [e_]; rfl)) _; exact ub BK101⟩, ⟨uB2 HB GB77.out GE101.out⟩⟩
                            ·
                             rw [if_neg c76] at H; have c76b0 := DL c76; clear c76; have H' := Aside0.mk H; clear H; obtain ⟨hcz84_0, hcz84_1, hfz84_0, hfz84_1⟩ := bc2 BK101; try go_wp2
                             replace HO_9 := Aside0.mk (Kd.S_drew HO_9.out); replace HO_10 := Aside0.mk (Kd.R_drew HO_10.out); replace HO_11 := Aside0.mk (Kd.R_drew HO_11.out); replace HO_12 := Aside0.mk (Kd.R_drew HO_12.out); replace BK101 := Aside0.mk (blk_drew BK101.out); replace HB := Aside0.mk (below_drew1 HB.out); obtain ⟨Ao86, co86, eo86⟩ := Kd.R_slice HO_12.out; (first | subst eo86 | (injection eo86 with f1_ f2_ f3_; have f4_ := f1_.symm; have f5_ := f3_.symm; clear f1_ f2_ f3_; subst f4_; subst f5_)); have p134 : 0 ≤ (x15_3 : Int) := ua; have q134 : x15_3 < (x12_4.length : Int) := ua; obtain ⟨ad134, e134, hx134_0⟩ := Kd.at_int (Kd.R_reads' HO_12.out).2.2 x15_3 p134 q134
                             cases e134
                             replace p134 := eq_true p134; replace q134 := eq_true q134; obtain ⟨Ao87, co87, eo87⟩ := Kd.S_slice HO_9.out; (first | subst eo87 | (injection eo87 with f1_ f2_ f3_; have f4_ := f1_.symm; have f5_ := f3_.symm; clear f1_ f2_ f3_; subst f4_; subst f5_)); have p135 : 0 ≤ (x15_3 : Int) := ua; have q135 : x15_3 < (t102.length : Int) := ua; obtain ⟨ad135, A135_0, c135_0, e135, hx135_0, hl135_0, hi135_0⟩ := at_L5 (Kd.S_reads' HO_9.out).2.2 x15_3 p135 q135
                             cases e135
                             obtain ⟨ce135, hce135, hMe135, hcc135⟩ := Kd.S_get HO_9.out [] x15_3 p135 (by first | exact q135 | exact ua | (have e_ := (Kd.S_reads' HO_9.out).1; omega)); obtain ⟨ve135_0, rfl, ge135_0⟩ := hMe135; have hv135_0 := hcc135 0 _ rfl; rw [Nat.add_zero, show ((Kd.slice 3 (Kd.int .i64))).sz = 1 from rfl, Nat.mul_one] at hv135_0; replace hv135_0 := Option.some.inj (hv135_0.symm.trans hx135_0); rw [hv135_0] at ge135_0; have HL135_0 := Aside0.mk (show Kd.R (Kd.int .i64) 3 _ _ _ _ (rd_L5 t102 x15_3) from ge135_0); clear hv135_0 ge135_0; clear hcc135 hce135; have HR135_0 := Aside0.mk hi135_0; have HC135_0 := Aside0.mk hl135_0; clear hi135_0 hl135_0; replace p135 := eq_true p135; replace q135 := eq_true q135; have p136 : 0 ≤ (x16_4 : Int) := ua; have q136 : x16_4 < ((rd_L5 t102 x15_3).length : Int) := ua; obtain ⟨ad136, e136, hx136_0⟩ := Kd.at_int (by repeat (first | (with_reducible exact HR135_0.out) | (with_reducible refine Kd.C_alloc ?_ _) | (with_reducible refine Kd.C_drewN ?_ _) | (with_reducible refine Kd.C_drew ?_) | exact HR135_0.out)) x16_4 p136 q136
                             cases e136
                             replace p136 := eq_true p136; replace q136 := eq_true q136; have p137 : 0 ≤ (x15_3 : Int) := ua; have q137 : x15_3 < (x12_4.length : Int) := ua; obtain ⟨ad137, e137, hx137_0⟩ := Kd.at_int (Kd.R_reads' HO_12.out).2.2 x15_3 p137 q137; obtain rfl : ad134 = ad137 := (by injection e137)
                             replace p137 := eq_true p137; replace q137 := eq_true q137; have p138 : 0 ≤ (x15_3 : Int) := ua; have q138 : x15_3 < (t102.length : Int) := ua; obtain ⟨ad138, A138_0, c138_0, e138, hx138_0, hl138_0, hi138_0⟩ := at_L5 (Kd.S_reads' HO_9.out).2.2 x15_3 p138 q138; obtain rfl : ad135 = ad138 := (by injection e138)
                             obtain ⟨ce138, hce138, hMe138, hcc138⟩ := Kd.S_get HO_9.out [] x15_3 p138 (by first | exact q138 | exact ua | (have e_ := (Kd.S_reads' HO_9.out).1; omega)); obtain ⟨ve138_0, rfl, ge138_0⟩ := hMe138; have hv138_0 := hcc138 0 _ rfl; rw [Nat.add_zero, show ((Kd.slice 3 (Kd.int .i64))).sz = 1 from rfl, Nat.mul_one] at hv138_0; replace hv138_0 := Option.some.inj (hv138_0.symm.trans hx138_0); rw [hv138_0] at ge138_0; have HL138_0 := Aside0.mk (show Kd.R (Kd.int .i64) 3 _ _ _ _ (rd_L5 t102 x15_3) from ge138_0); clear hv138_0 ge138_0; clear hcc138 hce138; have HR138_0 := Aside0.mk hi138_0; have HC138_0 := Aside0.mk hl138_0; clear hi138_0 hl138_0; replace p138 := eq_true p138; replace q138 := eq_true q138; have ea_ := Option.some.inj (hx135_0.symm.trans hx138_0); injection ea_ with ea_ en_ ec_
                             subst ea_; subst ec_; clear en_; have p139 : 0 ≤ (x16_4 : Int) := ua; have q139 : x16_4 < ((rd_L5 t102 x15_3).length : Int) := ua; obtain ⟨ad139, e139, hx139_0⟩ := Kd.at_int (by repeat (first | (with_reducible exact HR138_0.out) | (with_reducible refine Kd.C_alloc ?_ _) | (with_reducible refine Kd.C_drewN ?_ _) | (with_reducible refine Kd.C_drew ?_) | exact HR138_0.out)) x16_4 p139 q139
                             cases e139
                             replace p139 := eq_true p139; replace q139 := eq_true q139; have p140 : 0 ≤ (x16_4 : Int) := ua; have q140 : x16_4 < (x12_4.length : Int) := ua; obtain ⟨ad140, e140, hx140_0⟩ := Kd.at_int (Kd.R_reads' HO_12.out).2.2 x16_4 p140 q140; obtain rfl : ad134 = ad140 := (by injection e140)
                             replace p140 := eq_true p140; replace q140 := eq_true q140; refine start_ (n := 34) (S := fun w' => w'.cell? (ad134.add (x15_3).toNat) = some (.int .i64 (rd x12_4 x15_3)) ∧ w'.cell? (ad135.add (x15_3).toNat) = some (.slice (some ad136) (rd_L5 t102 x15_3).length c135_0) ∧ w'.cell? (ad136.add (x16_4).toNat) = some (.int .i64 (rd (rd_L5 t102 x15_3) x16_4)) ∧ w'.cell? (ad134.add (x15_3).toNat) = some (.int .i64 (rd x12_4 x15_3)) ∧ w'.cell? (ad135.add (x15_3).toNat) = some (.slice (some ad136) (rd_L5 t102 x15_3).length c135_0) ∧ w'.cell? (ad136.add (x16_4).toNat) = some (.int .i64 (rd (rd_L5 t102 x15_3) x16_4)) ∧ w'.cell? (ad134.add (x16_4).toNat) = some (.int .i64 (rd x12_4 x16_4))) (ds := []) (zt 34 0) (by kernel_rfl) rfl (by kernel_rfl) ⟨hx134_0, hx135_0, hx136_0, hx137_0, hx138_0, hx139_0, hx140_0⟩ (fun hHeld => ?_); refine with_tabW spec_l10Best.tab20 spec_l10Best.bits20 (fun HT_ HW_ => ?_); generalize wr.drew = w85 at HO_9 HO_10 HO_11 HO_12 BK101 HB HL135_0 HL138_0 HR135_0 HR138_0 hx134_0 hx135_0 hx136_0 hx137_0 hx138_0 hx139_0 hx140_0 hHeld ⊢; refine qz HT_ 0 ?_; refine qz HT_ 1 ?_; refine qz HT_ 2 ?_; refine qt HT_ HW_ hHeld 3 ?_; refine qz HT_ 4 ?_; refine qz HT_ 5 ?_; refine qz HT_ 6 ?_; refine qz HT_ 7 ?_; refine qz HT_ 8 ?_; refine qz HT_ 10 ?_; refine qt HT_ HW_ hHeld 9 ?_; refine qz HT_ 11 ?_; refine qt HT_ HW_ hHeld 12 ?_; refine qz HT_ 13 ?_; refine qz HT_ 14 ?_; refine qz HT_ 15 ?_; refine qz HT_ 16 ?_; refine qz HT_ 17 ?_; refine qz HT_ 18 ?_; refine qz HT_ 20 ?_; refine qz HT_ 21 ?_; refine qz HT_ 22 ?_; refine qz HT_ 24 ?_; refine qz HT_ 28 ?_; refine qz HT_ 29 ?_; refine qz HT_ 30 ?_; refine qt HT_ HW_ hHeld 19 ?_; refine qt HT_ HW_ hHeld 23 ?_; refine qz HT_ 25 ?_; refine qt HT_ HW_ hHeld 26 ?_; refine qz HT_ 27 ?_; refine qt HT_ HW_ hHeld 31 ?_; refine qz HT_ 32 ?_; refine qz HT_ 33 ?_; refine done_ (done_of HT_.out (by kernel_rfl)) ?_; try go_wp2
                             go_roundg k4
                             case measure => have := HK1.out; have := HK2.out; have := HK3.out; have := HK4.out; omega
                             case rel => exact ⟨(x12_4), (wrap64 (x16_4 + 1)), ue, H', ⟨by have := HK1.out; have := HK2.out; have := HK3.out; have := HK4.out; omega⟩, ⟨by (with_reducible repeat (first | apply Kd.S_alloc | apply Kd.S_drewN | apply Kd.S_drew)); exact HO_9.out⟩, ⟨ur HO_10⟩, ⟨ur HO_11⟩, ⟨ur HO_12⟩, ⟨ub BK101⟩, ⟨uB1 HB GE101.out⟩⟩
                           ·
                            rw [if_neg c75] at H; exact absurd H (by simp)
                          ·
                           rw [if_neg c74] at H; have c74b0 := DL c74; clear c74; have H' := Aside0.mk H; clear H; obtain ⟨hcz88_0, hcz88_1, hfz88_0, hfz88_1⟩ := bc2 BK101; try go_wp2
                           replace HO_9 := Aside0.mk (Kd.S_drew HO_9.out); replace HO_10 := Aside0.mk (Kd.R_drew HO_10.out); replace HO_11 := Aside0.mk (Kd.R_drew HO_11.out); replace HO_12 := Aside0.mk (Kd.R_drew HO_12.out); replace BK101 := Aside0.mk (blk_drew BK101.out); replace HB := Aside0.mk (below_drew1 HB.out); obtain ⟨Ao90, co90, eo90⟩ := Kd.R_slice HO_12.out; (first | subst eo90 | (injection eo90 with f1_ f2_ f3_; have f4_ := f1_.symm; have f5_ := f3_.symm; clear f1_ f2_ f3_; subst f4_; subst f5_)); have p134 : 0 ≤ (x15_3 : Int) := ua; have q134 : x15_3 < (x12_4.length : Int) := ua; obtain ⟨ad134, e134, hx134_0⟩ := Kd.at_int (Kd.R_reads' HO_12.out).2.2 x15_3 p134 q134
                           cases e134
                           replace p134 := eq_true p134; replace q134 := eq_true q134; obtain ⟨Ao91, co91, eo91⟩ := Kd.S_slice HO_9.out; (first | subst eo91 | (injection eo91 with f1_ f2_ f3_; have f4_ := f1_.symm; have f5_ := f3_.symm; clear f1_ f2_ f3_; subst f4_; subst f5_)); have p135 : 0 ≤ (x15_3 : Int) := ua; have q135 : x15_3 < (t102.length : Int) := ua; obtain ⟨ad135, A135_0, c135_0, e135, hx135_0, hl135_0, hi135_0⟩ := at_L5 (Kd.S_reads' HO_9.out).2.2 x15_3 p135 q135
                           cases e135
                           obtain ⟨ce135, hce135, hMe135, hcc135⟩ := Kd.S_get HO_9.out [] x15_3 p135 (by first | exact q135 | exact ua | (have e_ := (Kd.S_reads' HO_9.out).1; omega)); obtain ⟨ve135_0, rfl, ge135_0⟩ := hMe135; have hv135_0 := hcc135 0 _ rfl; rw [Nat.add_zero, show ((Kd.slice 3 (Kd.int .i64))).sz = 1 from rfl, Nat.mul_one] at hv135_0; replace hv135_0 := Option.some.inj (hv135_0.symm.trans hx135_0); rw [hv135_0] at ge135_0; have HL135_0 := Aside0.mk (show Kd.R (Kd.int .i64) 3 _ _ _ _ (rd_L5 t102 x15_3) from ge135_0); clear hv135_0 ge135_0; clear hcc135 hce135; have HR135_0 := Aside0.mk hi135_0; have HC135_0 := Aside0.mk hl135_0; clear hi135_0 hl135_0; replace p135 := eq_true p135; replace q135 := eq_true q135; have p136 : 0 ≤ (x16_4 : Int) := ua; have q136 : x16_4 < ((rd_L5 t102 x15_3).length : Int) := ua; obtain ⟨ad136, e136, hx136_0⟩ := Kd.at_int (by repeat (first | (with_reducible exact HR135_0.out) | (with_reducible refine Kd.C_alloc ?_ _) | (with_reducible refine Kd.C_drewN ?_ _) | (with_reducible refine Kd.C_drew ?_) | exact HR135_0.out)) x16_4 p136 q136
                           cases e136
                           replace p136 := eq_true p136; replace q136 := eq_true q136; refine start_ (n := 34) (S := fun w' => w'.cell? (ad134.add (x15_3).toNat) = some (.int .i64 (rd x12_4 x15_3)) ∧ w'.cell? (ad135.add (x15_3).toNat) = some (.slice (some ad136) (rd_L5 t102 x15_3).length c135_0) ∧ w'.cell? (ad136.add (x16_4).toNat) = some (.int .i64 (rd (rd_L5 t102 x15_3) x16_4))) (ds := []) (zt 34 0) (by kernel_rfl) rfl (by kernel_rfl) ⟨hx134_0, hx135_0, hx136_0⟩ (fun hHeld => ?_); refine with_tabW spec_l10Best.tab20 spec_l10Best.bits20 (fun HT_ HW_ => ?_); generalize wr.drew = w89 at HO_9 HO_10 HO_11 HO_12 BK101 HB HL135_0 HR135_0 hx134_0 hx135_0 hx136_0 hHeld ⊢; refine qz HT_ 0 ?_; refine qz HT_ 1 ?_; refine qz HT_ 2 ?_; refine qt HT_ HW_ hHeld 3 ?_; refine qz HT_ 4 ?_; refine qz HT_ 5 ?_; refine qz HT_ 6 ?_; refine qz HT_ 7 ?_; refine qz HT_ 8 ?_; refine qz HT_ 10 ?_; refine qt HT_ HW_ hHeld 9 ?_; refine qz HT_ 11 ?_; refine qt HT_ HW_ hHeld 12 ?_; refine qz HT_ 13 ?_; refine qz HT_ 14 ?_; refine qz HT_ 15 ?_; refine qn HT_ 16 ?_; refine qn HT_ 17 ?_; refine qn HT_ 18 ?_; refine qn HT_ 19 ?_; refine qn HT_ 20 ?_; refine qn HT_ 21 ?_; refine qn HT_ 22 ?_; refine qn HT_ 23 ?_; refine qn HT_ 24 ?_; refine qn HT_ 25 ?_; refine qn HT_ 26 ?_; refine qn HT_ 27 ?_; refine qn HT_ 28 ?_; refine qn HT_ 29 ?_; refine qn HT_ 30 ?_; refine qn HT_ 31 ?_; refine qn HT_ 32 ?_; refine qz HT_ 33 ?_; refine done_ (done_of HT_.out (by kernel_rfl)) ?_; try go_wp2
                           go_roundg k4
                           case measure => have := HK1.out; have := HK2.out; have := HK3.out; have := HK4.out; omega
                           case rel => exact ⟨(x12_4), (wrap64 (x16_4 + 1)), ue, H', ⟨by have := HK1.out; have := HK2.out; have := HK3.out; have := HK4.out; omega⟩, ⟨by (with_reducible repeat (first | apply Kd.S_alloc | apply Kd.S_drewN | apply Kd.S_drew)); exact HO_9.out⟩, ⟨ur HO_10⟩, ⟨ur HO_11⟩, ⟨ur HO_12⟩, ⟨ub BK101⟩, ⟨uB1 HB GE101.out⟩⟩
                         ·
                          rw [if_neg c73] at H; exact absurd H (by simp)
                        ·
                         rw [if_neg c72] at H; exact absurd H (by simp)
                       ·
                        rw [if_neg c71] at H; exact absurd H (by simp)
                      ·
                       rw [if_neg c70] at H; have c70b0 := DL c70; clear c70; have H' := Aside0.mk H; clear H; obtain ⟨hcz92_0, hcz92_1, hfz92_0, hfz92_1⟩ := bc2 BK101; try go_wp2
                       replace HO_9 := Aside0.mk (Kd.S_drew HO_9.out); replace HO_10 := Aside0.mk (Kd.R_drew HO_10.out); replace HO_11 := Aside0.mk (Kd.R_drew HO_11.out); replace HO_12 := Aside0.mk (Kd.R_drew HO_12.out); replace BK101 := Aside0.mk (blk_drew BK101.out); replace HB := Aside0.mk (below_drew1 HB.out); obtain ⟨Ao94, co94, eo94⟩ := Kd.R_slice HO_12.out; (first | subst eo94 | (injection eo94 with f1_ f2_ f3_; have f4_ := f1_.symm; have f5_ := f3_.symm; clear f1_ f2_ f3_; subst f4_; subst f5_)); have p134 : 0 ≤ (x15_3 : Int) := ua; have q134 : x15_3 < (x12_4.length : Int) := ua; obtain ⟨ad134, e134, hx134_0⟩ := Kd.at_int (Kd.R_reads' HO_12.out).2.2 x15_3 p134 q134
                       cases e134
                       replace p134 := eq_true p134; replace q134 := eq_true q134; refine start_ (n := 34) (S := fun w' => w'.cell? (ad134.add (x15_3).toNat) = some (.int .i64 (rd x12_4 x15_3))) (ds := []) (zt 34 0) (by kernel_rfl) rfl (by kernel_rfl) (hx134_0) (fun hHeld => ?_); refine with_tabW spec_l10Best.tab20 spec_l10Best.bits20 (fun HT_ HW_ => ?_); generalize wr.drew = w93 at HO_9 HO_10 HO_11 HO_12 BK101 HB hx134_0 hHeld ⊢; refine qz HT_ 0 ?_; refine qz HT_ 1 ?_; refine qz HT_ 2 ?_; refine qt HT_ HW_ hHeld 3 ?_ (hy := by intro w' hs; go_simp; with_reducible rfl); refine qz HT_ 4 ?_; refine qz HT_ 5 ?_; refine qn HT_ 6 ?_; refine qn HT_ 7 ?_; refine qn HT_ 8 ?_; refine qn HT_ 9 ?_; refine qn HT_ 10 ?_; refine qn HT_ 11 ?_; refine qn HT_ 12 ?_; refine qn HT_ 13 ?_; refine qz HT_ 14 ?_; refine qz HT_ 15 ?_; refine qn HT_ 16 ?_; refine qn HT_ 17 ?_; refine qn HT_ 18 ?_; refine qn HT_ 19 ?_; refine qn HT_ 20 ?_; refine qn HT_ 21 ?_; refine qn HT_ 22 ?_; refine qn HT_ 23 ?_; refine qn HT_ 24 ?_; refine qn HT_ 25 ?_; refine qn HT_ 26 ?_; refine qn HT_ 27 ?_; refine qn HT_ 28 ?_; refine qn HT_ 29 ?_; refine qn HT_ 30 ?_; refine qn HT_ 31 ?_; refine qn HT_ 32 ?_; refine qz HT_ 33 ?_; refine done_ (done_of HT_.out (by kernel_rfl)) ?_; try go_wp2
                       go_roundg k4
                       case measure => have := HK1.out; have := HK2.out; have := HK3.out; have := HK4.out; omega
                       case rel => exact ⟨(x12_4), (wrap64 (x16_4 + 1)), ue, H', ⟨by have := HK1.out; have := HK2.out; have := HK3.out; have := HK4.out; omega⟩, ⟨by (with_reducible repeat (first | apply Kd.S_alloc | apply Kd.S_drewN | apply Kd.S_drew)); exact HO_9.out⟩, ⟨ur HO_10⟩, ⟨ur HO_11⟩, ⟨ur HO_12⟩, ⟨ub BK101⟩, ⟨uB1 HB GE101.out⟩⟩
                     ·
                      rw [if_neg c69] at H; exact absurd H (by simp)
                    ·
                     rw [if_neg c68] at H; exact absurd H (by simp)
                   ·
                    rw [if_neg c67] at H; have c67b0 := DL c67; clear c67; have H' := Aside0.mk H; clear H; obtain ⟨hcz95_0, hcz95_1, hfz95_0, hfz95_1⟩ := bc2 BK101; go_wp2; go_roundg k4
                    case measure => have := HK1.out; have := HK2.out; have := HK3.out; have := HK4.out; omega
                    case rel => exact ⟨(x12_4), (wrap64 (x15_3 + 1)), ue, H', ⟨by have := HK1.out; have := HK2.out; have := HK3.out; have := HK4.out; omega⟩, ⟨by (with_reducible repeat (first | apply Kd.S_alloc | apply Kd.S_drewN | apply Kd.S_drew)); exact HO_9.out⟩, ⟨ur HO_10⟩, ⟨ur HO_11⟩, ⟨ur HO_12⟩, ⟨ub BK101⟩, ⟨uB1 HB GE101.out⟩⟩
               ·
                rw [if_neg c65] at H; have c65b0 := DL c65; clear c65; have H' := Aside0.mk H; clear H; obtain ⟨hcz96_0, hcz96_1, hfz96_0, hfz96_1⟩ := bc2 BK101; go_wp2; go_roundg k3
                case measure => have := HK1.out; have := HK2.out; have := HK3.out; omega
                case rel => exact ⟨(x12_3), (wrap64 (x14_2 + 1)), ue, H', ⟨by have := HK1.out; have := HK2.out; have := HK3.out; omega⟩, ⟨by (with_reducible repeat (first | apply Kd.S_alloc | apply Kd.S_drewN | apply Kd.S_drew)); exact HO_9.out⟩, ⟨ur HO_10⟩, ⟨ur HO_11⟩, ⟨ur HO_12⟩, ⟨ub BK101⟩, ⟨uB1 HB GE101.out⟩⟩
            ·
             rw [if_neg c63] at H; have c63b0 := DL c63; clear c63; by_cases c97 : 0 ≤ a2
             ·
              rw [if_pos c97] at H; have c97b0 := de c97; clear c97; by_cases c98 : a2 < (l1.length : Int)
              ·
               rw [if_pos c98] at H; have c98b0 := dl c98; clear c98; by_cases c99 : 0 ≤ a3
               ·
                rw [if_pos c99] at H; have c99b0 := de c99; clear c99; by_cases c100 : a3 < (l1.length : Int)
                ·
                 rw [if_pos c100] at H; have c100b0 := dl c100; clear c100; have HC101 := Aside0.mk H; clear H; obtain ⟨hcz102_0, hcz102_1, hfz102_0, hfz102_1⟩ := bc2 BK101; try go_wp2
                 replace HO_9 := Aside0.mk (Kd.S_drew HO_9.out); replace HO_10 := Aside0.mk (Kd.R_drew HO_10.out); replace HO_11 := Aside0.mk (Kd.R_drew HO_11.out); replace HO_12 := Aside0.mk (Kd.R_drew HO_12.out); replace BK101 := Aside0.mk (blk_drew BK101.out); replace HB := Aside0.mk (below_drew1 HB.out); have p145 : 0 ≤ (a2 : Int) := ua; have q145 : a2 < (l1.length : Int) := ua; obtain ⟨ad145, e145, hx145_0⟩ := Kd.at_int HR1.out a2 p145 q145; have hw145_0 := hx145_0; obtain rfl : ad105 = ad145 := (by injection e145)
                 replace hx145_0 := uc HB hx145_0; replace p145 := eq_true p145; replace q145 := eq_true q145; have p146 : 0 ≤ (a3 : Int) := ua; have q146 : a3 < (l1.length : Int) := ua; obtain ⟨ad146, e146, hx146_0⟩ := Kd.at_int HR1.out a3 p146 q146; have hw146_0 := hx146_0; obtain rfl : ad105 = ad146 := (by injection e146)
                 replace hx146_0 := uc HB hx146_0; replace p146 := eq_true p146; replace q146 := eq_true q146; refine start_ (n := 9) (S := fun w' => w'.cell? (ad105.add (a2).toNat) = some (.int .i64 (rd l1 a2)) ∧ w'.cell? (ad105.add (a3).toNat) = some (.int .i64 (rd l1 a3))) (ds := []) (zt 9 0) (by kernel_rfl) rfl (by kernel_rfl) ⟨(ud HB hw145_0), (ud HB hw146_0)⟩ (fun hHeld => ?_); refine with_tabW spec_l10Best.tab23 spec_l10Best.bits23 (fun HT_ HW_ => ?_); generalize wr.drew = w103 at HO_9 HO_10 HO_11 HO_12 BK101 HB hx145_0 hx146_0 hHeld ⊢; refine qz HT_ 0 ?_; refine qz HT_ 1 ?_; refine qz HT_ 2 ?_; refine qz HT_ 4 ?_; refine qz HT_ 5 ?_; refine qz HT_ 6 ?_; refine qt HT_ HW_ hHeld 3 ?_; refine qt HT_ HW_ hHeld 7 ?_; refine qz HT_ 8 ?_; refine done_ (done_of HT_.out (by kernel_rfl)) ?_; go_upto_if 150 with (fail)
                 go_cut [17] (fun v17 wc => ∃ (kq : Nat) (x17_100 : Int), v17 = .int .i64 x17_100 ∧ Aside0 (spec_l10Best.j4 kq l1 a3 t122 x12_2 x17_100 a0_0 l0_1 = some r) ∧ Aside0 (kq ≤ k2) ∧ Aside0 (Kd.R (Kd.int .i64) 3 wc w.heap.size (fun k_ => some k_ ≠ (v126 : Value).ownBlock) v123 t122) ∧ Aside0 (Kd.R (Kd.int .i64) 3 wc w.heap.size (fun k_ => some k_ ≠ (v123 : Value).ownBlock) v126 x12_2) ∧ Aside0 (wc.heap[gb101]? = some (.cells #[.int .i64 a0_0, (.slice A0_1 l0_1.length c0_1)] 25 (0, 0))) ∧ Aside0 (Below w.heap.size w wc))
                 case first =>
                  have H := HC101.out; clear HC101; by_cases c104 : (rd l1 a2) = (rd l1 a3)
                  ·
                   rw [if_pos c104] at H; obtain ⟨c104b0, c104b1⟩ := dq c104; clear c104; (first | rw [c104b0] | (simp only [i64_w, i32_w]; rw [c104b0]) | skip); by_cases c105 : a3 < (t110.length : Int)
                   ·
                    rw [if_pos c105] at H; have c105b0 := dl c105; clear c105; have H' := Aside0.mk H; clear H; obtain ⟨Ao106, co106, eo106⟩ := Kd.R_slice HO_10.out; subst eo106; have p147 : 0 ≤ (a3 : Int) := ua; have q147 : a3 < (t110.length : Int) := ua; obtain ⟨ad147, e147, hx147_0⟩ := Kd.at_int (Kd.R_reads' HO_10.out).2.2 a3 p147 q147
                    cases e147
                    replace p147 := eq_true p147; replace q147 := eq_true q147; go_wp2; go_meet
                    case rel => exact ⟨_, (rd t110 a3), ue, H', ⟨by have := HK1.out; have := HK2.out; first | omega | exact Nat.le_refl _⟩, ⟨by (with_reducible repeat (first | apply Kd.R_alloc | apply Kd.R_drewN | apply Kd.R_drew)); exact Kd.R_mono HO_11.out (fun _ hk => hk.2)⟩, ⟨by (with_reducible repeat (first | apply Kd.R_alloc | apply Kd.R_drewN | apply Kd.R_drew)); exact Kd.R_mono HO_12.out (fun _ hk => hk.2)⟩, ⟨ub BK101⟩, ⟨uB1 HB GE101.out⟩⟩
                   ·
                    rw [if_neg c105] at H; exact absurd H (by simp)
                  ·
                   rw [if_neg c104] at H; obtain ⟨c104b0, c104b1⟩ := dQ c104; (first | rw [c104b0] | (simp only [i64_w, i32_w]; rw [c104b0]) | skip); have H' := Aside0.mk H; clear H; go_wp2; go_meet
                   case rel => exact ⟨_, (99999), ue, H', ⟨by have := HK1.out; have := HK2.out; first | omega | exact Nat.le_refl _⟩, ⟨by (with_reducible repeat (first | apply Kd.R_alloc | apply Kd.R_drewN | apply Kd.R_drew)); exact Kd.R_mono HO_11.out (fun _ hk => hk.2)⟩, ⟨by (with_reducible repeat (first | apply Kd.R_alloc | apply Kd.R_drewN | apply Kd.R_drew)); exact Kd.R_mono HO_12.out (fun _ hk => hk.2)⟩, ⟨ub BK101⟩, ⟨uB1 HB GE101.out⟩⟩
                 case rest =>
                  clear HC101; try clear c1
                  try clear p1
                  try clear q1
                  try clear hx1
                  try clear p2
                  try clear c6
                  try clear p6
                  try clear c7
                  try clear c9
                  try clear c10
                  try clear p13
                  try clear q13
                  try clear hx13
                  try clear p14
                  try clear q14
                  try clear hx14
                  try clear c63
                  try clear c63b0
                  try clear p64
                  try clear c65
                  try clear c65b0
                  try clear c67
                  try clear c67b0
                  try clear c68
                  try clear c69
                  try clear c70
                  try clear c70b0
                  try clear c71
                  try clear c72
                  try clear c73
                  try clear c97
                  try clear c97b0
                  try clear c98
                  try clear c98b0
                  try clear c99
                  try clear c99b0
                  try clear c100
                  try clear c100b0
                  try clear c104
                  try clear c104b0
                  try clear c104b1
                  try clear c105
                  try clear c105b0
                  try clear hcz102_0 hcz102_1
                  try clear hcz92_0 hcz92_1
                  try clear hcz95_0 hcz95_1
                  try clear hcz96_0 hcz96_1
                  try clear hfz102_0 hfz102_1
                  try clear hfz92_0 hfz92_1
                  try clear hfz95_0 hfz95_1
                  try clear hfz96_0 hfz96_1
                  try clear hx134_0
                  try clear hx145_0
                  try clear hx146_0
                  try clear hx147_0
                  try clear p134
                  try clear p145
                  try clear p146
                  try clear p147
                  try clear q134
                  try clear q145
                  try clear q146
                  try clear q147
                  obtain ⟨kq, x17_100, rfl, HA, HJ100, HO_11, HO_12, BK101, HB⟩ := hcut
                  cases kq with
                  | zero => exact absurd HA.out (by simp [spec_l10Best.j4])
                  | succ kj100 =>
                   have H := HA.out; clear HA; simp only [spec_l10Best.j4] at H; have H' := Aside0.mk H; clear H; go_wp2; go_loopg [17, 18] kj100 (fun kq v17 v18 w' => ∃ (x17_4 : Int) (x18_4 : Int), v17 = .int .i64 x17_4 ∧ v18 = .int .i64 x18_4 ∧ Aside0 (spec_l10Best.l4 kq l1 a3 t122 x12_2 x17_4 x18_4 a0_0 l0_1 = some r) ∧ Aside0 (kq ≤ kj100) ∧ Aside0 (Kd.R (Kd.int .i64) 3 w' w.heap.size (fun k_ => some k_ ≠ (v126 : Value).ownBlock) v123 t122) ∧ Aside0 (Kd.R (Kd.int .i64) 3 w' w.heap.size (fun k_ => some k_ ≠ (v123 : Value).ownBlock) v126 x12_2) ∧ Aside0 (w'.heap[gb101]? = some (.cells #[.int .i64 a0_0, (.slice A0_1 l0_1.length c0_1)] 25 (0, 0))) ∧ Aside0 (Below w.heap.size w w'))
                   case atStart => exact ⟨(x17_100), (0), ue, ue, H', ⟨Nat.le_refl _⟩, ⟨ur HO_11⟩, ⟨ur HO_12⟩, ⟨ub BK101⟩, ⟨uB1 HB GE101.out⟩⟩
                   case round =>
                    as_aux_lemma =>
                     clear H'; try clear c1
                     try clear p1
                     try clear q1
                     try clear hx1
                     try clear p2
                     try clear c6
                     try clear p6
                     try clear c7
                     try clear c9
                     try clear c10
                     try clear p13
                     try clear q13
                     try clear hx13
                     try clear p14
                     try clear q14
                     try clear hx14
                     try clear c63
                     try clear c63b0
                     try clear p64
                     try clear c65
                     try clear c65b0
                     try clear c67
                     try clear c67b0
                     try clear c68
                     try clear c69
                     try clear c70
                     try clear c70b0
                     try clear c71
                     try clear c72
                     try clear c73
                     try clear c97
                     try clear c97b0
                     try clear c98
                     try clear c98b0
                     try clear c99
                     try clear c99b0
                     try clear c100
                     try clear c100b0
                     try clear c104
                     try clear c104b0
                     try clear c104b1
                     try clear c105
                     try clear c105b0
                     try clear hcz102_0 hcz102_1
                     try clear hcz92_0 hcz92_1
                     try clear hcz95_0 hcz95_1
                     try clear hcz96_0 hcz96_1
                     try clear hfz102_0 hfz102_1
                     try clear hfz92_0 hfz92_1
                     try clear hfz95_0 hfz95_1
                     try clear hfz96_0 hfz96_1
                     try clear hx134_0
                     try clear hx145_0
                     try clear hx146_0
                     try clear hx147_0
                     try clear p1
                     try clear p13
                     try clear p134
                     try clear p14
                     try clear p145
                     try clear p146
                     try clear p147
                     try clear p2
                     try clear p6
                     try clear p64
                     try clear q1
                     try clear q13
                     try clear q134
                     try clear q14
                     try clear q145
                     try clear q146
                     try clear q147
                     obtain ⟨x17_4, x18_4, rfl, rfl, HA, HK4, HO_11, HO_12, BK101, HB⟩ := hrel
                     cases gk with
                     | zero => exact absurd HA.out (by simp [spec_l10Best.l4])
                     | succ k4 =>
                      have H := HA.out; clear HA; simp only [spec_l10Best.l4] at H; by_cases c107 : x18_4 < a0_0
                      ·
                       rw [if_pos c107] at H; have c107b0 := dl c107; clear c107; by_cases c108 : 0 ≤ x18_4
                       ·
                        rw [if_pos c108] at H; have c108b0 := de c108; clear c108; by_cases c109 : x18_4 < (l1.length : Int)
                        ·
                         rw [if_pos c109] at H; have c109b0 := dl c109; clear c109; by_cases c110 : 0 ≤ a3
                         ·
                          rw [if_pos c110] at H; have c110b0 := de c110; clear c110; by_cases c111 : a3 < (l1.length : Int)
                          ·
                           rw [if_pos c111] at H; have c111b0 := dl c111; clear c111; by_cases c112 : (rd l1 x18_4) = (rd l1 a3)
                           ·
                            rw [if_pos c112] at H; obtain ⟨c112b0, c112b1⟩ := dq c112; clear c112; by_cases c113 : x18_4 < (x12_2.length : Int)
                            ·
                             rw [if_pos c113] at H; have c113b0 := dl c113; clear c113; by_cases c114 : (rd x12_2 x18_4) < 99999
                             ·
                              rw [if_pos c114] at H; have c114b0 := dl c114; clear c114; by_cases c115 : x18_4 < (t122.length : Int)
                              ·
                               rw [if_pos c115] at H; have c115b0 := dl c115; clear c115; by_cases c116 : (rd t122 x18_4) < 99999
                               ·
                                rw [if_pos c116] at H; have c116b0 := dl c116; clear c116; by_cases c117 : (wrap64 ((rd x12_2 x18_4) + (rd t122 x18_4))) < x17_4
                                ·
                                 rw [if_pos c117] at H; have c117b0 := dl c117; clear c117; have H' := Aside0.mk H; clear H; obtain ⟨hcz118_0, hcz118_1, hfz118_0, hfz118_1⟩ := bc2 BK101; try go_wp2
                                 replace HO_11 := Aside0.mk (Kd.R_drew HO_11.out); replace HO_12 := Aside0.mk (Kd.R_drew HO_12.out); replace BK101 := Aside0.mk (blk_drew BK101.out); replace HB := Aside0.mk (below_drew1 HB.out); have p148 : 0 ≤ (x18_4 : Int) := ua; have q148 : x18_4 < (l1.length : Int) := ua; obtain ⟨ad148, e148, hx148_0⟩ := Kd.at_int HR1.out x18_4 p148 q148; have hw148_0 := hx148_0; obtain rfl : ad105 = ad148 := (by injection e148)
                                 replace hx148_0 := uc HB hx148_0; replace p148 := eq_true p148; replace q148 := eq_true q148; have p149 : 0 ≤ (a3 : Int) := ua; have q149 : a3 < (l1.length : Int) := ua; obtain ⟨ad149, e149, hx149_0⟩ := Kd.at_int HR1.out a3 p149 q149; have hw149_0 := hx149_0; obtain rfl : ad105 = ad149 := (by injection e149)
                                 replace hx149_0 := uc HB hx149_0; replace p149 := eq_true p149; replace q149 := eq_true q149; obtain ⟨Ao120, co120, eo120⟩ := Kd.R_slice HO_12.out; (first | subst eo120 | (injection eo120 with f1_ f2_ f3_; have f4_ := f1_.symm; have f5_ := f3_.symm; clear f1_ f2_ f3_; subst f4_; subst f5_)); have p150 : 0 ≤ (x18_4 : Int) := ua; have q150 : x18_4 < (x12_2.length : Int) := ua; obtain ⟨ad150, e150, hx150_0⟩ := Kd.at_int (Kd.R_reads' HO_12.out).2.2 x18_4 p150 q150
                                 cases e150
                                 replace p150 := eq_true p150; replace q150 := eq_true q150; obtain ⟨Ao121, co121, eo121⟩ := Kd.R_slice HO_11.out; (first | subst eo121 | (injection eo121 with f1_ f2_ f3_; have f4_ := f1_.symm; have f5_ := f3_.symm; clear f1_ f2_ f3_; subst f4_; subst f5_)); have p151 : 0 ≤ (x18_4 : Int) := ua; have q151 : x18_4 < (t122.length : Int) := ua; obtain ⟨ad151, e151, hx151_0⟩ := Kd.at_int (Kd.R_reads' HO_11.out).2.2 x18_4 p151 q151
                                 cases e151
                                 replace p151 := eq_true p151; replace q151 := eq_true q151; have p152 : 0 ≤ (x18_4 : Int) := ua; have q152 : x18_4 < (x12_2.length : Int) := ua; obtain ⟨ad152, e152, hx152_0⟩ := Kd.at_int (Kd.R_reads' HO_12.out).2.2 x18_4 p152 q152; obtain rfl : ad150 = ad152 := (by injection e152)
                                 replace p152 := eq_true p152; replace q152 := eq_true q152; have p153 : 0 ≤ (x18_4 : Int) := ua; have q153 : x18_4 < (t122.length : Int) := ua; obtain ⟨ad153, e153, hx153_0⟩ := Kd.at_int (Kd.R_reads' HO_11.out).2.2 x18_4 p153 q153; obtain rfl : ad151 = ad153 := (by injection e153)
                                 replace p153 := eq_true p153; replace q153 := eq_true q153; refine start_ (n := 36) (S := fun w' => w'.cell? (ad105.add (x18_4).toNat) = some (.int .i64 (rd l1 x18_4)) ∧ w'.cell? (ad105.add (a3).toNat) = some (.int .i64 (rd l1 a3)) ∧ w'.cell? (ad150.add (x18_4).toNat) = some (.int .i64 (rd x12_2 x18_4)) ∧ w'.cell? (ad151.add (x18_4).toNat) = some (.int .i64 (rd t122 x18_4)) ∧ w'.cell? (ad150.add (x18_4).toNat) = some (.int .i64 (rd x12_2 x18_4)) ∧ w'.cell? (ad151.add (x18_4).toNat) = some (.int .i64 (rd t122 x18_4))) (ds := []) (zt 36 0) (by kernel_rfl) rfl (by kernel_rfl) ⟨(ud HB hw148_0), (ud HB hw149_0), hx150_0, hx151_0, hx152_0, hx153_0⟩ (fun hHeld => ?_); refine with_tabW spec_l10Best.tab28 spec_l10Best.bits28 (fun HT_ HW_ => ?_); generalize wr.drew = w119 at HO_11 HO_12 BK101 HB hx148_0 hx149_0 hx150_0 hx151_0 hx152_0 hx153_0 hHeld ⊢; refine qz HT_ 0 ?_; refine qz HT_ 1 ?_; refine qz HT_ 2 ?_; refine qz HT_ 4 ?_; refine qz HT_ 5 ?_; refine qz HT_ 6 ?_; refine qt HT_ HW_ hHeld 3 ?_; refine qt HT_ HW_ hHeld 7 ?_; refine qz HT_ 8 ?_; refine qz HT_ 9 ?_; refine qz HT_ 10 ?_; refine qz HT_ 11 ?_; refine qz HT_ 12 ?_; refine qt HT_ HW_ hHeld 13 ?_; refine qz HT_ 14 ?_; refine qz HT_ 15 ?_; refine qz HT_ 16 ?_; refine qz HT_ 17 ?_; refine qz HT_ 18 ?_; refine qz HT_ 19 ?_; refine qt HT_ HW_ hHeld 20 ?_; refine qz HT_ 21 ?_; refine qz HT_ 22 ?_; refine qz HT_ 23 ?_; refine qz HT_ 24 ?_; refine qz HT_ 25 ?_; refine qz HT_ 26 ?_; refine qz HT_ 28 ?_; refine qz HT_ 29 ?_; refine qz HT_ 30 ?_; refine qz HT_ 33 ?_; refine qt HT_ HW_ hHeld 27 ?_; refine qt HT_ HW_ hHeld 31 ?_; refine qz HT_ 32 ?_; refine qz HT_ 34 ?_; refine qz HT_ 35 ?_; refine done_ (done_of HT_.out (by kernel_rfl)) ?_; try go_wp2
                                 replace HO_11 := Aside0.mk (Kd.R_drew HO_11.out); replace HO_12 := Aside0.mk (Kd.R_drew HO_12.out); replace BK101 := Aside0.mk (blk_drew BK101.out); replace HB := Aside0.mk (below_drew1 HB.out); have p154 : 0 ≤ (x18_4 : Int) := ua; have q154 : x18_4 < (x12_2.length : Int) := ua; obtain ⟨ad154, e154, hx154_0⟩ := Kd.at_int (Kd.R_reads' HO_12.out).2.2 x18_4 p154 q154; obtain rfl : ad150 = ad154 := (by injection e154)
                                 replace p154 := eq_true p154; replace q154 := eq_true q154; have p155 : 0 ≤ (x18_4 : Int) := ua; have q155 : x18_4 < (t122.length : Int) := ua; obtain ⟨ad155, e155, hx155_0⟩ := Kd.at_int (Kd.R_reads' HO_11.out).2.2 x18_4 p155 q155; obtain rfl : ad151 = ad155 := (by injection e155)
                                 replace p155 := eq_true p155; replace q155 := eq_true q155; refine start_ (n := 10) (S := fun w' => w'.cell? (ad150.add (x18_4).toNat) = some (.int .i64 (rd x12_2 x18_4)) ∧ w'.cell? (ad151.add (x18_4).toNat) = some (.int .i64 (rd t122 x18_4))) (ds := []) (zt 10 0) (by kernel_rfl) rfl (by kernel_rfl) ⟨hx154_0, hx155_0⟩ (fun hHeld => ?_); refine with_tabW spec_l10Best.tab29 spec_l10Best.bits29 (fun HT_ HW_ => ?_); generalize w119.drew = w122 at HO_11 HO_12 BK101 HB hx154_0 hx155_0 hHeld ⊢; refine qz HT_ 0 ?_; refine qz HT_ 1 ?_; refine qz HT_ 2 ?_; refine qz HT_ 4 ?_; refine qz HT_ 5 ?_; refine qz HT_ 6 ?_; refine qt HT_ HW_ hHeld 3 ?_; refine qt HT_ HW_ hHeld 7 ?_; refine qz HT_ 8 ?_; refine qz HT_ 9 ?_; refine done_ (done_of HT_.out (by kernel_rfl)) ?_; try go_wp2
                                 go_roundg k4
                                 case measure => have := HK1.out; have := HK2.out; have := HJ100.out; have := HK4.out; omega
                                 case rel => exact ⟨(wrap64 ((rd x12_2 x18_4) + (rd t122 x18_4))), (wrap64 (x18_4 + 1)), ue, ue, H', ⟨by have := HK1.out; have := HK2.out; have := HJ100.out; have := HK4.out; omega⟩, ⟨ur HO_11⟩, ⟨ur HO_12⟩, ⟨ub BK101⟩, ⟨uB1 HB GE101.out⟩⟩
                                ·
                                 rw [if_neg c117] at H; have c117b0 := DL c117; clear c117; have H' := Aside0.mk H; clear H; obtain ⟨hcz123_0, hcz123_1, hfz123_0, hfz123_1⟩ := bc2 BK101; try go_wp2
                                 replace HO_11 := Aside0.mk (Kd.R_drew HO_11.out); replace HO_12 := Aside0.mk (Kd.R_drew HO_12.out); replace BK101 := Aside0.mk (blk_drew BK101.out); replace HB := Aside0.mk (below_drew1 HB.out); have p148 : 0 ≤ (x18_4 : Int) := ua; have q148 : x18_4 < (l1.length : Int) := ua; obtain ⟨ad148, e148, hx148_0⟩ := Kd.at_int HR1.out x18_4 p148 q148; have hw148_0 := hx148_0; obtain rfl : ad105 = ad148 := (by injection e148)
                                 replace hx148_0 := uc HB hx148_0; replace p148 := eq_true p148; replace q148 := eq_true q148; have p149 : 0 ≤ (a3 : Int) := ua; have q149 : a3 < (l1.length : Int) := ua; obtain ⟨ad149, e149, hx149_0⟩ := Kd.at_int HR1.out a3 p149 q149; have hw149_0 := hx149_0; obtain rfl : ad105 = ad149 := (by injection e149)
                                 replace hx149_0 := uc HB hx149_0; replace p149 := eq_true p149; replace q149 := eq_true q149; obtain ⟨Ao125, co125, eo125⟩ := Kd.R_slice HO_12.out; (first | subst eo125 | (injection eo125 with f1_ f2_ f3_; have f4_ := f1_.symm; have f5_ := f3_.symm; clear f1_ f2_ f3_; subst f4_; subst f5_)); have p150 : 0 ≤ (x18_4 : Int) := ua; have q150 : x18_4 < (x12_2.length : Int) := ua; obtain ⟨ad150, e150, hx150_0⟩ := Kd.at_int (Kd.R_reads' HO_12.out).2.2 x18_4 p150 q150
                                 cases e150
                                 replace p150 := eq_true p150; replace q150 := eq_true q150; obtain ⟨Ao126, co126, eo126⟩ := Kd.R_slice HO_11.out; (first | subst eo126 | (injection eo126 with f1_ f2_ f3_; have f4_ := f1_.symm; have f5_ := f3_.symm; clear f1_ f2_ f3_; subst f4_; subst f5_)); have p151 : 0 ≤ (x18_4 : Int) := ua; have q151 : x18_4 < (t122.length : Int) := ua; obtain ⟨ad151, e151, hx151_0⟩ := Kd.at_int (Kd.R_reads' HO_11.out).2.2 x18_4 p151 q151
                                 cases e151
                                 replace p151 := eq_true p151; replace q151 := eq_true q151; have p152 : 0 ≤ (x18_4 : Int) := ua; have q152 : x18_4 < (x12_2.length : Int) := ua; obtain ⟨ad152, e152, hx152_0⟩ := Kd.at_int (Kd.R_reads' HO_12.out).2.2 x18_4 p152 q152; obtain rfl : ad150 = ad152 := (by injection e152)
                                 replace p152 := eq_true p152; replace q152 := eq_true q152; have p153 : 0 ≤ (x18_4 : Int) := ua; have q153 : x18_4 < (t122.length : Int) := ua; obtain ⟨ad153, e153, hx153_0⟩ := Kd.at_int (Kd.R_reads' HO_11.out).2.2 x18_4 p153 q153; obtain rfl : ad151 = ad153 := (by injection e153)
                                 replace p153 := eq_true p153; replace q153 := eq_true q153; refine start_ (n := 36) (S := fun w' => w'.cell? (ad105.add (x18_4).toNat) = some (.int .i64 (rd l1 x18_4)) ∧ w'.cell? (ad105.add (a3).toNat) = some (.int .i64 (rd l1 a3)) ∧ w'.cell? (ad150.add (x18_4).toNat) = some (.int .i64 (rd x12_2 x18_4)) ∧ w'.cell? (ad151.add (x18_4).toNat) = some (.int .i64 (rd t122 x18_4)) ∧ w'.cell? (ad150.add (x18_4).toNat) = some (.int .i64 (rd x12_2 x18_4)) ∧ w'.cell? (ad151.add (x18_4).toNat) = some (.int .i64 (rd t122 x18_4))) (ds := []) (zt 36 0) (by kernel_rfl) rfl (by kernel_rfl) ⟨(ud HB hw148_0), (ud HB hw149_0), hx150_0, hx151_0, hx152_0, hx153_0⟩ (fun hHeld => ?_); refine with_tabW spec_l10Best.tab28 spec_l10Best.bits28 (fun HT_ HW_ => ?_); generalize wr.drew = w124 at HO_11 HO_12 BK101 HB hx148_0 hx149_0 hx150_0 hx151_0 hx152_0 hx153_0 hHeld ⊢; refine qz HT_ 0 ?_; refine qz HT_ 1 ?_; refine qz HT_ 2 ?_; refine qz HT_ 4 ?_; refine qz HT_ 5 ?_; refine qz HT_ 6 ?_; refine qt HT_ HW_ hHeld 3 ?_; refine qt HT_ HW_ hHeld 7 ?_; refine qz HT_ 8 ?_; refine qz HT_ 9 ?_; refine qz HT_ 10 ?_; refine qz HT_ 11 ?_; refine qz HT_ 12 ?_; refine qt HT_ HW_ hHeld 13 ?_; refine qz HT_ 14 ?_; refine qz HT_ 15 ?_; refine qz HT_ 16 ?_; refine qz HT_ 17 ?_; refine qz HT_ 18 ?_; refine qz HT_ 19 ?_; refine qt HT_ HW_ hHeld 20 ?_; refine qz HT_ 21 ?_; refine qz HT_ 22 ?_; refine qz HT_ 23 ?_; refine qz HT_ 24 ?_; refine qz HT_ 25 ?_; refine qz HT_ 26 ?_; refine qz HT_ 28 ?_; refine qz HT_ 29 ?_; refine qz HT_ 30 ?_; refine qz HT_ 33 ?_; refine qt HT_ HW_ hHeld 27 ?_; refine qt HT_ HW_ hHeld 31 ?_; refine qz HT_ 32 ?_; refine qz HT_ 34 ?_; refine qz HT_ 35 ?_; refine done_ (done_of HT_.out (by kernel_rfl)) ?_; try go_wp2
                                 go_roundg k4
                                 case measure => have := HK1.out; have := HK2.out; have := HJ100.out; have := HK4.out; omega
                                 case rel => exact ⟨(x17_4), (wrap64 (x18_4 + 1)), ue, ue, H', ⟨by have := HK1.out; have := HK2.out; have := HJ100.out; have := HK4.out; omega⟩, ⟨ur HO_11⟩, ⟨ur HO_12⟩, ⟨ub BK101⟩, ⟨uB1 HB GE101.out⟩⟩
                               ·
                                rw [if_neg c116] at H; have c116b0 := DL c116; clear c116; have H' := Aside0.mk H; clear H; obtain ⟨hcz127_0, hcz127_1, hfz127_0, hfz127_1⟩ := bc2 BK101; try go_wp2
                                replace HO_11 := Aside0.mk (Kd.R_drew HO_11.out); replace HO_12 := Aside0.mk (Kd.R_drew HO_12.out); replace BK101 := Aside0.mk (blk_drew BK101.out); replace HB := Aside0.mk (below_drew1 HB.out); have p148 : 0 ≤ (x18_4 : Int) := ua; have q148 : x18_4 < (l1.length : Int) := ua; obtain ⟨ad148, e148, hx148_0⟩ := Kd.at_int HR1.out x18_4 p148 q148; have hw148_0 := hx148_0; obtain rfl : ad105 = ad148 := (by injection e148)
                                replace hx148_0 := uc HB hx148_0; replace p148 := eq_true p148; replace q148 := eq_true q148; have p149 : 0 ≤ (a3 : Int) := ua; have q149 : a3 < (l1.length : Int) := ua; obtain ⟨ad149, e149, hx149_0⟩ := Kd.at_int HR1.out a3 p149 q149; have hw149_0 := hx149_0; obtain rfl : ad105 = ad149 := (by injection e149)
                                replace hx149_0 := uc HB hx149_0; replace p149 := eq_true p149; replace q149 := eq_true q149; obtain ⟨Ao129, co129, eo129⟩ := Kd.R_slice HO_12.out; (first | subst eo129 | (injection eo129 with f1_ f2_ f3_; have f4_ := f1_.symm; have f5_ := f3_.symm; clear f1_ f2_ f3_; subst f4_; subst f5_)); have p150 : 0 ≤ (x18_4 : Int) := ua; have q150 : x18_4 < (x12_2.length : Int) := ua; obtain ⟨ad150, e150, hx150_0⟩ := Kd.at_int (Kd.R_reads' HO_12.out).2.2 x18_4 p150 q150
                                cases e150
                                replace p150 := eq_true p150; replace q150 := eq_true q150; obtain ⟨Ao130, co130, eo130⟩ := Kd.R_slice HO_11.out; (first | subst eo130 | (injection eo130 with f1_ f2_ f3_; have f4_ := f1_.symm; have f5_ := f3_.symm; clear f1_ f2_ f3_; subst f4_; subst f5_)); have p151 : 0 ≤ (x18_4 : Int) := ua; have q151 : x18_4 < (t122.length : Int) := ua; obtain ⟨ad151, e151, hx151_0⟩ := Kd.at_int (Kd.R_reads' HO_11.out).2.2 x18_4 p151 q151
                                cases e151
                                replace p151 := eq_true p151; replace q151 := eq_true q151; refine start_ (n := 36) (S := fun w' => w'.cell? (ad105.add (x18_4).toNat) = some (.int .i64 (rd l1 x18_4)) ∧ w'.cell? (ad105.add (a3).toNat) = some (.int .i64 (rd l1 a3)) ∧ w'.cell? (ad150.add (x18_4).toNat) = some (.int .i64 (rd x12_2 x18_4)) ∧ w'.cell? (ad151.add (x18_4).toNat) = some (.int .i64 (rd t122 x18_4))) (ds := []) (zt 36 0) (by kernel_rfl) rfl (by kernel_rfl) ⟨(ud HB hw148_0), (ud HB hw149_0), hx150_0, hx151_0⟩ (fun hHeld => ?_); refine with_tabW spec_l10Best.tab28 spec_l10Best.bits28 (fun HT_ HW_ => ?_); generalize wr.drew = w128 at HO_11 HO_12 BK101 HB hx148_0 hx149_0 hx150_0 hx151_0 hHeld ⊢; refine qz HT_ 0 ?_; refine qz HT_ 1 ?_; refine qz HT_ 2 ?_; refine qz HT_ 4 ?_; refine qz HT_ 5 ?_; refine qz HT_ 6 ?_; refine qt HT_ HW_ hHeld 3 ?_; refine qt HT_ HW_ hHeld 7 ?_; refine qz HT_ 8 ?_; refine qz HT_ 9 ?_; refine qz HT_ 10 ?_; refine qz HT_ 11 ?_; refine qz HT_ 12 ?_; refine qt HT_ HW_ hHeld 13 ?_; refine qz HT_ 14 ?_; refine qz HT_ 15 ?_; refine qz HT_ 16 ?_; refine qz HT_ 17 ?_; refine qz HT_ 18 ?_; refine qz HT_ 19 ?_; refine qt HT_ HW_ hHeld 20 ?_; refine qz HT_ 21 ?_; refine qz HT_ 22 ?_; refine qz HT_ 23 ?_; refine qn HT_ 24 ?_; refine qn HT_ 25 ?_; refine qn HT_ 26 ?_; refine qn HT_ 27 ?_; refine qn HT_ 28 ?_; refine qn HT_ 29 ?_; refine qn HT_ 30 ?_; refine qn HT_ 31 ?_; refine qn HT_ 32 ?_; refine qn HT_ 33 ?_; refine qn HT_ 34 ?_; refine qz HT_ 35 ?_; refine done_ (done_of HT_.out (by kernel_rfl)) ?_; try go_wp2
                                go_roundg k4
                                case measure => have := HK1.out; have := HK2.out; have := HJ100.out; have := HK4.out; omega
                                case rel => exact ⟨(x17_4), (wrap64 (x18_4 + 1)), ue, ue, H', ⟨by have := HK1.out; have := HK2.out; have := HJ100.out; have := HK4.out; omega⟩, ⟨ur HO_11⟩, ⟨ur HO_12⟩, ⟨ub BK101⟩, ⟨uB1 HB GE101.out⟩⟩
                              ·
                               rw [if_neg c115] at H; exact absurd H (by simp)
                             ·
                              rw [if_neg c114] at H; have c114b0 := DL c114; clear c114; have H' := Aside0.mk H; clear H; obtain ⟨hcz131_0, hcz131_1, hfz131_0, hfz131_1⟩ := bc2 BK101; try go_wp2
                              replace HO_11 := Aside0.mk (Kd.R_drew HO_11.out); replace HO_12 := Aside0.mk (Kd.R_drew HO_12.out); replace BK101 := Aside0.mk (blk_drew BK101.out); replace HB := Aside0.mk (below_drew1 HB.out); have p148 : 0 ≤ (x18_4 : Int) := ua; have q148 : x18_4 < (l1.length : Int) := ua; obtain ⟨ad148, e148, hx148_0⟩ := Kd.at_int HR1.out x18_4 p148 q148; have hw148_0 := hx148_0; obtain rfl : ad105 = ad148 := (by injection e148)
                              replace hx148_0 := uc HB hx148_0; replace p148 := eq_true p148; replace q148 := eq_true q148; have p149 : 0 ≤ (a3 : Int) := ua; have q149 : a3 < (l1.length : Int) := ua; obtain ⟨ad149, e149, hx149_0⟩ := Kd.at_int HR1.out a3 p149 q149; have hw149_0 := hx149_0; obtain rfl : ad105 = ad149 := (by injection e149)
                              replace hx149_0 := uc HB hx149_0; replace p149 := eq_true p149; replace q149 := eq_true q149; obtain ⟨Ao133, co133, eo133⟩ := Kd.R_slice HO_12.out; (first | subst eo133 | (injection eo133 with f1_ f2_ f3_; have f4_ := f1_.symm; have f5_ := f3_.symm; clear f1_ f2_ f3_; subst f4_; subst f5_)); have p150 : 0 ≤ (x18_4 : Int) := ua; have q150 : x18_4 < (x12_2.length : Int) := ua; obtain ⟨ad150, e150, hx150_0⟩ := Kd.at_int (Kd.R_reads' HO_12.out).2.2 x18_4 p150 q150
                              cases e150
                              replace p150 := eq_true p150; replace q150 := eq_true q150; refine start_ (n := 36) (S := fun w' => w'.cell? (ad105.add (x18_4).toNat) = some (.int .i64 (rd l1 x18_4)) ∧ w'.cell? (ad105.add (a3).toNat) = some (.int .i64 (rd l1 a3)) ∧ w'.cell? (ad150.add (x18_4).toNat) = some (.int .i64 (rd x12_2 x18_4))) (ds := []) (zt 36 0) (by kernel_rfl) rfl (by kernel_rfl) ⟨(ud HB hw148_0), (ud HB hw149_0), hx150_0⟩ (fun hHeld => ?_); refine with_tabW spec_l10Best.tab28 spec_l10Best.bits28 (fun HT_ HW_ => ?_); generalize wr.drew = w132 at HO_11 HO_12 BK101 HB hx148_0 hx149_0 hx150_0 hHeld ⊢; refine qz HT_ 0 ?_; refine qz HT_ 1 ?_; refine qz HT_ 2 ?_; refine qz HT_ 4 ?_; refine qz HT_ 5 ?_; refine qz HT_ 6 ?_; refine qt HT_ HW_ hHeld 3 ?_; refine qt HT_ HW_ hHeld 7 ?_; refine qz HT_ 8 ?_; refine qz HT_ 9 ?_; refine qz HT_ 10 ?_; refine qz HT_ 11 ?_; refine qz HT_ 12 ?_; refine qt HT_ HW_ hHeld 13 ?_; refine qz HT_ 14 ?_; refine qz HT_ 15 ?_; refine qz HT_ 16 ?_; refine qn HT_ 17 ?_; refine qn HT_ 18 ?_; refine qn HT_ 19 ?_; refine qn HT_ 20 ?_; refine qn HT_ 21 ?_; refine qz HT_ 22 ?_; refine qz HT_ 23 ?_; refine qn HT_ 24 ?_; refine qn HT_ 25 ?_; refine qn HT_ 26 ?_; refine qn HT_ 27 ?_; refine qn HT_ 28 ?_; refine qn HT_ 29 ?_; refine qn HT_ 30 ?_; refine qn HT_ 31 ?_; refine qn HT_ 32 ?_; refine qn HT_ 33 ?_; refine qn HT_ 34 ?_; refine qz HT_ 35 ?_; refine done_ (done_of HT_.out (by kernel_rfl)) ?_; try go_wp2
                              go_roundg k4
                              case measure => have := HK1.out; have := HK2.out; have := HJ100.out; have := HK4.out; omega
                              case rel => exact ⟨(x17_4), (wrap64 (x18_4 + 1)), ue, ue, H', ⟨by have := HK1.out; have := HK2.out; have := HJ100.out; have := HK4.out; omega⟩, ⟨ur HO_11⟩, ⟨ur HO_12⟩, ⟨ub BK101⟩, ⟨uB1 HB GE101.out⟩⟩
                            ·
                             rw [if_neg c113] at H; exact absurd H (by simp)
                           ·
                            rw [if_neg c112] at H; obtain ⟨c112b0, c112b1⟩ := dQ c112; have H' := Aside0.mk H; clear H; obtain ⟨hcz134_0, hcz134_1, hfz134_0, hfz134_1⟩ := bc2 BK101; try go_wp2
                            replace HO_11 := Aside0.mk (Kd.R_drew HO_11.out); replace HO_12 := Aside0.mk (Kd.R_drew HO_12.out); replace BK101 := Aside0.mk (blk_drew BK101.out); replace HB := Aside0.mk (below_drew1 HB.out); have p148 : 0 ≤ (x18_4 : Int) := ua; have q148 : x18_4 < (l1.length : Int) := ua; obtain ⟨ad148, e148, hx148_0⟩ := Kd.at_int HR1.out x18_4 p148 q148; have hw148_0 := hx148_0; obtain rfl : ad105 = ad148 := (by injection e148)
                            replace hx148_0 := uc HB hx148_0; replace p148 := eq_true p148; replace q148 := eq_true q148; have p149 : 0 ≤ (a3 : Int) := ua; have q149 : a3 < (l1.length : Int) := ua; obtain ⟨ad149, e149, hx149_0⟩ := Kd.at_int HR1.out a3 p149 q149; have hw149_0 := hx149_0; obtain rfl : ad105 = ad149 := (by injection e149)
                            replace hx149_0 := uc HB hx149_0; replace p149 := eq_true p149; replace q149 := eq_true q149; refine start_ (n := 36) (S := fun w' => w'.cell? (ad105.add (x18_4).toNat) = some (.int .i64 (rd l1 x18_4)) ∧ w'.cell? (ad105.add (a3).toNat) = some (.int .i64 (rd l1 a3))) (ds := []) (zt 36 0) (by kernel_rfl) rfl (by kernel_rfl) ⟨(ud HB hw148_0), (ud HB hw149_0)⟩ (fun hHeld => ?_); refine with_tabW spec_l10Best.tab28 spec_l10Best.bits28 (fun HT_ HW_ => ?_); generalize wr.drew = w135 at HO_11 HO_12 BK101 HB hx148_0 hx149_0 hHeld ⊢; refine qz HT_ 0 ?_; refine qz HT_ 1 ?_; refine qz HT_ 2 ?_; refine qz HT_ 4 ?_; refine qz HT_ 5 ?_; refine qz HT_ 6 ?_; refine qt HT_ HW_ hHeld 3 ?_; refine qt HT_ HW_ hHeld 7 ?_; refine qz HT_ 8 ?_; refine qz HT_ 9 ?_; refine qn HT_ 10 ?_; refine qn HT_ 11 ?_; refine qn HT_ 12 ?_; refine qn HT_ 13 ?_; refine qn HT_ 14 ?_; refine qz HT_ 15 ?_; refine qz HT_ 16 ?_; refine qn HT_ 17 ?_; refine qn HT_ 18 ?_; refine qn HT_ 19 ?_; refine qn HT_ 20 ?_; refine qn HT_ 21 ?_; refine qz HT_ 22 ?_; refine qz HT_ 23 ?_; refine qn HT_ 24 ?_; refine qn HT_ 25 ?_; refine qn HT_ 26 ?_; refine qn HT_ 27 ?_; refine qn HT_ 28 ?_; refine qn HT_ 29 ?_; refine qn HT_ 30 ?_; refine qn HT_ 31 ?_; refine qn HT_ 32 ?_; refine qn HT_ 33 ?_; refine qn HT_ 34 ?_; refine qz HT_ 35 ?_; refine done_ (done_of HT_.out (by kernel_rfl)) ?_; try go_wp2
                            go_roundg k4
                            case measure => have := HK1.out; have := HK2.out; have := HJ100.out; have := HK4.out; omega
                            case rel => exact ⟨(x17_4), (wrap64 (x18_4 + 1)), ue, ue, H', ⟨by have := HK1.out; have := HK2.out; have := HJ100.out; have := HK4.out; omega⟩, ⟨ur HO_11⟩, ⟨ur HO_12⟩, ⟨ub BK101⟩, ⟨uB1 HB GE101.out⟩⟩
                          ·
                           rw [if_neg c111] at H; exact absurd H (by simp)
                         ·
                          rw [if_neg c110] at H; exact absurd H (by simp)
                        ·
                         rw [if_neg c109] at H; exact absurd H (by simp)
                       ·
                        rw [if_neg c108] at H; exact absurd H (by simp)
                      ·
                       rw [if_neg c107] at H; have c107b0 := DL c107; clear c107; obtain rfl := Option.some.inj H; obtain ⟨hcz136_0, hcz136_1, hfz136_0, hfz136_1⟩ := bc2 BK101; go_wp2; go_ret; exact ⟨ux, uB1 HB GE101.out⟩
                ·
                 rw [if_neg c100] at H; exact absurd H (by simp)
               ·
                rw [if_neg c99] at H; exact absurd H (by simp)
              ·
               rw [if_neg c98] at H; exact absurd H (by simp)
             ·
              rw [if_neg c97] at H; exact absurd H (by simp)
      ·
       rw [if_neg c16] at H; exact absurd H (by simp)
     ·
      rw [if_neg c15] at H; exact absurd H (by simp)
    ·
     rw [if_neg c11] at H; exact absurd H (by simp)
   ·
    rw [if_neg c10] at H; exact absurd H (by simp)
  ·
   rw [if_neg c7] at H; exact absurd H (by simp)
 ·
  rw [if_neg c6] at H; exact absurd H (by simp)

end Go.Proofs.Ytblpdfgplifccaa.P
