-- written for this claim by a program (wip/gen/myprint.py over the print tool). Not trusted: Lean checks it.
import Derived.Test.YtjmpngfgfddpaaaPx0
import Derived.Test.YtjmpngfgfddpaaaHUp
import Derived.Test.YtjmpngfgfddpaaaPFSpecL30Open
import Derived.Test.YtjmpngfgfddpaaaPFSpecL30RdPick
import Derived.Test.YtjmpngfgfddpaaaPFSpecL30RdOne
namespace Go.Proofs.Ytjmpngfgfddpaaa.P
open Go.RowKit Go.Proofs.YtjmpngfgfddpaaaV.PrintWords Go.Proofs.YtjmpngfgfddpaaaV.PrintLast
set_option linter.unusedVariables false
set_option linter.unusedSimpArgs false

/-! ### spec_l30Net: function 148 -/
def spec_l30Net.l0 : Nat → Int → List Int → Int → Int → List (S33) → Option (Int × (List (S33)) × Int)
 | 0, _, _, _, _, _ => none
 | k + 1, x4, x1000, x1001, x105000, x105001 => if x4 > 0 then ((spec_l30Rd_pick.f k x1000 x1001 x105000).bind fun bt107 => ((spec_l30Rd_pick.f k x1000 bt107.2 x105000).bind fun bt109 => ((spec_l30Rd_pick.f k x1000 bt109.2 100).bind fun bt111 => ((spec_l30Rd_one.f k x1000 bt111.2 (([0, 1, 2, 5, 9, bt111.1] : List Int))).bind fun bt116 => ((spec_l30Rd_one.f k x1000 bt116.2 (([0, 0, 3, 8] : List Int))).bind fun bt121 => ((spec_l30Rd_pick.f k x1000 bt121.2 10).bind fun bt123 => (if bt107.1 = bt109.1 then (if x105000 = 0 then (none) else (if x105001.length < 3518437208883 then (spec_l30Net.l0 k (wrap64 (x4 - 1)) x1000 bt123.2 x105000 (x105001 ++ [(⟨bt107.1, Int.tmod (wrap64 (bt109.1 + 1)) x105000, bt116.1, bt121.1, bt123.1⟩ : S33)])) else (none))) else (if x105001.length < 3518437208883 then (spec_l30Net.l0 k (wrap64 (x4 - 1)) x1000 bt123.2 x105000 (x105001 ++ [(⟨bt107.1, bt109.1, bt116.1, bt121.1, bt123.1⟩ : S33)])) else (none))))))))) else (some (x105000, x105001, x1001))
def spec_l30Net.f (k : Nat) (s0_0 : List Int) (s0_1 : Int) : Option (Int × (List (S33)) × Int) := (spec_l30Rd_pick.f k s0_0 s0_1 5).bind fun bt102 => ((spec_l30Rd_pick.f k s0_0 bt102.2 14).bind fun bt105 => (spec_l30Net.l0 k bt105.1 s0_0 bt105.2 (wrap64 (2 + bt102.1)) ([] : List (S33))))
def spec_l30Net.T5 : Bool × List (List Nat × List Nat) := (true, [([], []), ([], []), ([1], [1]), ([0, 2], [0, 2]), ([], []), ([], []), ([5], [5]), ([4, 6, 3], [4, 6]), ([], []), ([], []), ([9, 7], [9]), ([10], [10]), ([8, 11, 10], [8, 11]), ([], []), ([], []), ([13, 14, 12], [13, 14]), ([], []), ([16, 15], [16]), ([3, 7, 12, 15, 17], [3, 7, 12, 15, 17]), ([], []), ([19, 18, 17, 0, 1, 2, 3, 4, 5, 6, 7, 8, 9, 10, 11, 12, 13, 14, 15, 16, 17, 18, 19], [18, 19])])
def spec_l30Net.B5 : List Nat := [0, 0, 2, 7, 0, 0, 32, 127, 0, 0, 767, 1791, 4095, 0, 0, 32767, 0, 131071, 262143, 0, 1048575]
theorem spec_l30Net.tab5 : rtab .any (opsOf Try.f148 5) = spec_l30Net.T5 := by kernel_rfl
theorem spec_l30Net.bits5 : waitsOk spec_l30Net.T5.2 spec_l30Net.B5 = true := by kernel_rfl
set_option maxHeartbeats 8000000 in
set_option maxRecDepth 100000 in
theorem spec_l30Net.calls (k : Nat) (g : Nat) (s0_0 : List Int) (s0_1 : Int) (r1 : Int) (r2 : List (S33)) (r3 : Int) (w0 w : World) (hI : IsS115 w0 w g s0_0 s0_1) (hB : Below w0.heap.size w0 w) (h : spec_l30Net.f k s0_0 s0_1 = some (r1, r2, r3)) :
  Calls Try.prog 148 #[.pointer (some ⟨g, 0, none⟩)] w fun e w' => ∃ v1_ : Value, e = .returned (.agg #[.int .i64 r1, v1_]) ∧ Kd.R k33 33 w' w.heap.size (fun _ => True) v1_ r2 ∧ IsS115 w0 w' g s0_0 r3 ∧ Below w0.heap.size w0 w' ∧ KeepBut w w' g none := by
 have hu25 := Try.underlying25
 have hu33 := Try.underlying33
 have HI0 := Aside0.mk hI
 have HK := Aside0.mk (KeepBut.refl w g none)
 have HL := Aside0.mk hB.size
 have HGL0 := Aside0.mk (IsS115.lt hI)
 clear hI
 have HW0 := Aside0.mk hB.size
 have HB := Aside0.mk hB
 clear hB
 have H : ((spec_l30Rd_pick.f k s0_0 s0_1 5).bind fun bt102 => ((spec_l30Rd_pick.f k s0_0 bt102.2 14).bind fun bt105 => (spec_l30Net.l0 k bt105.1 s0_0 bt105.2 (wrap64 (2 + bt102.1)) ([] : List (S33))))) = some (r1, r2, r3) := h
 clear h
 replace H := Option.bind_eq_some_iff.mp H
 obtain ⟨⟨t102, t103⟩, A20, H⟩ := H
 replace H : ((spec_l30Rd_pick.f k s0_0 t103 14).bind fun bt105 => (spec_l30Net.l0 k bt105.1 s0_0 bt105.2 (wrap64 (2 + t102)) ([] : List (S33)))) = some (r1, r2, r3) := H
 have A2 := Aside0.mk A20
 clear A20
 replace H := Option.bind_eq_some_iff.mp H
 obtain ⟨⟨t105, t106⟩, A30, H⟩ := H
 replace H : (spec_l30Net.l0 k t105 s0_0 t106 (wrap64 (2 + t102)) ([] : List (S33))) = some (r1, r2, r3) := H
 have A3 := Aside0.mk A30
 clear A30
 have H' := Aside0.mk H
 clear H
 go_enter Try.func148, Try.ntmps148
 go_wp2_with (first | ((with_reducible refine gate_dst (N := 2) rfl ?_); refine box_event ?hg (N := 2) ?hd (cs := #[.int .i64 0, .slice none 0 0]) (t := 25) ?hr ?_; (case hd => rfl); (case hg => rfl); (case hr => first | (go_simp; done) | (go_simp; rfl)); intro gb101 hg w4 hbox hb; have n0_ := Aside0.mk (IsS115.below (uI0 HI0) hb); have n1_ := Aside0.mk (KeepBut.trans (uK0 HK) (KeepBut.of_below hb g none) (.inl rfl)); have n2_ := Aside0.mk (below_step (uB1 HB (IsS115.ge HI0.out)) hb); have n3_ := Aside0.mk (hbox); have n4_ := Aside0.mk ((by rw [hg]; exact (keep_size (w := w) (g := g) (row := none) (uK0 HK)) : w.heap.size ≤ gb101)); have n5_ := Aside0.mk ((Nat.le_trans HW0.out (by rw [hg]; exact (keep_size (w := w) (g := g) (row := none) (uK0 HK)) : w.heap.size ≤ gb101) : w0.heap.size ≤ gb101)); have n6_ := Aside0.mk ((by rw [hg]; exact Nat.ne_of_lt (Nat.lt_of_lt_of_le HGL0.out (keep_size (w := w) (g := g) (row := none) (uK0 HK))) : g ≠ gb101)); have n7_ := Aside0.mk ((by rw [hg]; exact Nat.ne_of_gt (Nat.lt_of_lt_of_le HGL0.out (keep_size (w := w) (g := g) (row := none) (uK0 HK))) : gb101 ≠ g)); clear HI0; clear HK; clear HB; have HI0 := n0_; have HK := n1_; have HB := n2_; have BK101 := n3_; have GW101 := n4_; have GE101 := n5_; have NB0_101 := n6_; have NB101_0 := n7_; clear n0_ n1_ n2_ n3_ n4_ n5_ n6_ n7_; clear hb hbox hg) | ((with_reducible refine gate_callee (f := 137) rfl ?_); refine goesL_ (some 7) rfl rfl Try.func137 (by kernel_rfl) rfl #[.pointer (some ⟨g, 0, none⟩), .int .i64 5] rfl ul ?_; (with_reducible refine (spec_l30Rd_pick.calls k g s0_0 s0_1 5 t102 t103 w0 _ ?side1 ?side2 A2.out).mono ?_); (case side1 => exact uI1 HI0 NB0_101.out); (case side2 => exact uB2 HB (IsS115.ge HI0.out) GE101.out); rintro e w5 ⟨rfl, hi, hb, hk⟩; refine ⟨_, rfl, ?_⟩; have n0_ := Aside0.mk (KeepBut.blk hk (g' := gb101) (o := .cells #[.int .i64 0, .slice none 0 0] 25 (0, 0)) (ub BK101) NB101_0.out (by simp)); have n1_ := Aside0.mk (KeepBut.trans (uK1 HK GW101.out) hk (.inl rfl)); have n2_ := Aside0.mk (hb); have n3_ := Aside0.mk (hi); clear BK101; clear HK; clear HB; clear HI0; have BK101 := n0_; have HK := n1_; have HB := n2_; have HI0 := n3_; clear n0_ n1_ n2_ n3_; (try clear hb); (try clear hb2); (try clear hk); (try clear hi)) | ((with_reducible refine gate_dst (N := 3) rfl ?_); refine box_event ?hg (N := 3) ?hd (cs := #[.int .i64 0, .slice none 0 0]) (t := 25) ?hr ?_; (case hd => rfl); (case hg => rfl); (case hr => first | (go_simp; done) | (go_simp; rfl)); intro gb104 hg w6 hbox hb; have n0_ := Aside0.mk (IsS115.below (uI1 HI0 NB0_101.out) hb); have n1_ := Aside0.mk (blk_below (g := gb101) (o := .cells #[.int .i64 0, .slice none 0 0] 25 (0, 0)) (ub BK101) hb); have n2_ := Aside0.mk (KeepBut.trans (uK1 HK GW101.out) (KeepBut.of_below hb g none) (.inl rfl)); have n3_ := Aside0.mk (below_step (uB2 HB (IsS115.ge HI0.out) GE101.out) hb); have n4_ := Aside0.mk (hbox); have n5_ := Aside0.mk ((by rw [hg]; exact (keep_size (w := w) (g := g) (row := none) (uK1 HK GW101.out)) : w.heap.size ≤ gb104)); have n6_ := Aside0.mk ((Nat.le_trans HW0.out (by rw [hg]; exact (keep_size (w := w) (g := g) (row := none) (uK1 HK GW101.out)) : w.heap.size ≤ gb104) : w0.heap.size ≤ gb104)); have n7_ := Aside0.mk ((by rw [hg]; exact Nat.ne_of_lt (blk_lt (g := gb101) (o := .cells #[.int .i64 0, .slice none 0 0] 25 (0, 0)) (ub BK101)) : gb101 ≠ gb104)); have n8_ := Aside0.mk ((by rw [hg]; exact Nat.ne_of_gt (blk_lt (g := gb101) (o := .cells #[.int .i64 0, .slice none 0 0] 25 (0, 0)) (ub BK101)) : gb104 ≠ gb101)); have n9_ := Aside0.mk ((by rw [hg]; exact Nat.ne_of_lt (Nat.lt_of_lt_of_le HGL0.out (keep_size (w := w) (g := g) (row := none) (uK1 HK GW101.out))) : g ≠ gb104)); have n10_ := Aside0.mk ((by rw [hg]; exact Nat.ne_of_gt (Nat.lt_of_lt_of_le HGL0.out (keep_size (w := w) (g := g) (row := none) (uK1 HK GW101.out))) : gb104 ≠ g)); clear HI0; clear BK101; clear HK; clear HB; have HI0 := n0_; have BK101 := n1_; have HK := n2_; have HB := n3_; have BK104 := n4_; have GW104 := n5_; have GE104 := n6_; have NB101_104 := n7_; have NB104_101 := n8_; have NB0_104 := n9_; have NB104_0 := n10_; clear n0_ n1_ n2_ n3_ n4_ n5_ n6_ n7_ n8_ n9_ n10_; clear hb hbox hg; have hnb7 := NB104_101.out; have hnc7 := NB101_104.out; have hnb8 := NB104_0.out; have hnc8 := NB0_104.out; have hcz9_0 : w6.cell? ⟨gb104, 0, none⟩ = some (.int .i64 0) := (blk_cell BK104.out 0).trans rfl; have hcz9_1 : w6.cell? ⟨gb104, 1, none⟩ = some (.slice none 0 0) := (blk_cell BK104.out 1).trans rfl; have hfz9_0 := blk_frozen BK104.out 0; have hfz9_1 := blk_frozen BK104.out 1) | ((with_reducible refine gate_callee (f := 137) rfl ?_); refine goesL_ (some 11) rfl rfl Try.func137 (by kernel_rfl) rfl #[.pointer (some ⟨g, 0, none⟩), .int .i64 14] rfl ul ?_; (with_reducible refine (spec_l30Rd_pick.calls k g s0_0 t103 14 t105 t106 w0 _ ?side1 ?side2 A3.out).mono ?_); (case side1 => exact uI2 HI0 NB0_101.out NB0_104.out); (case side2 => exact uB3 HB (IsS115.ge HI0.out) GE101.out GE104.out); rintro e w10 ⟨rfl, hi, hb, hk⟩; refine ⟨_, rfl, ?_⟩; have n0_ := Aside0.mk (KeepBut.blk hk (g' := gb101) (o := .cells #[.int .i64 0, .slice none 0 0] 25 (0, 0)) (by (with_reducible repeat (first | refine blk_drewN ?_ _ | refine blk_drew ?_ | refine blk_alloc ?_ _)); refine blk_far ?_ NB101_104.out _; (with_reducible repeat (first | refine blk_drewN ?_ _ | refine blk_drew ?_ | refine blk_alloc ?_ _)); refine blk_far ?_ NB101_104.out _; exact ub BK101) NB101_0.out (by simp)); have n1_ := Aside0.mk (KeepBut.blk hk (g' := gb104) (o := .cells #[.int .i64 (wrap64 (2 + t102)), .slice none 0 0] 25 (0, 0)) (by (with_reducible repeat (first | refine blk_drewN ?_ _ | refine blk_drew ?_ | refine blk_alloc ?_ _)); refine blk_put (cs := #[.int .i64 (wrap64 (2 + t102)), .slice none 0 0]) ?_ 1 _ rfl; (with_reducible repeat (first | refine blk_drewN ?_ _ | refine blk_drew ?_ | refine blk_alloc ?_ _)); refine blk_put (cs := #[.int .i64 0, .slice none 0 0]) ?_ 0 _ rfl; exact ub BK104) NB104_0.out (by simp)); have n2_ := Aside0.mk (KeepBut.trans (uK2 HK GW101.out GW104.out) hk (.inl rfl)); have n3_ := Aside0.mk (hb); have n4_ := Aside0.mk (hi); clear BK101; clear BK104; clear HK; clear HB; clear HI0; have BK101 := n0_; have BK104 := n1_; have HK := n2_; have HB := n3_; have HI0 := n4_; clear n0_ n1_ n2_ n3_ n4_; (try clear hb); (try clear hb2); (try clear hk); (try clear hi)))
 go_loopg [4] k (fun kq v4 w' => ∃ (x4_1 : Int) (x1001_1 : Int) (x105001_1 : List (S33)) (u105001 : Value), v4 = .int .i64 x4_1 ∧ Aside0 (spec_l30Net.l0 kq x4_1 s0_0 x1001_1 (wrap64 (2 + t102)) x105001_1 = some (r1, r2, r3)) ∧ Aside0 (kq ≤ k) ∧ Aside0 (Kd.R k33 33 w' w.heap.size (fun _ => True) u105001 x105001_1) ∧ Aside0 (w'.heap[gb101]? = some (.cells #[.int .i64 0, (.slice none 0 0)] 25 (0, 0))) ∧ Aside0 (w'.heap[gb104]? = some (.cells #[.int .i64 (wrap64 (2 + t102)), u105001] 25 (0, 0))) ∧ Aside0 (IsS115 w0 w' g s0_0 x1001_1) ∧ Aside0 (KeepBut w w' g none) ∧ Aside0 (Below w0.heap.size w0 w'))
 case atStart => exact ⟨(t105), (t106), (([] : List (S33))), (.slice none 0 0), ue, H', ⟨Nat.le_refl _⟩, ⟨by first | exact Kd.R_nil _ _ _ _ _ | exact Kd.N_nil _ _ _ _ _ | exact Kd.V_nil _ _ _ _ _ | exact Kd.Q_nil _ _ _ _ _ | exact Kd.S_nil _ _ _ _ _⟩, ⟨ub BK101⟩, ⟨ub BK104⟩, ⟨uI2 HI0 NB0_101.out NB0_104.out⟩, ⟨uK2 HK GW101.out GW104.out⟩, ⟨uB3 HB (IsS115.ge HI0.out) GE101.out GE104.out⟩⟩
 case round =>
  clear H'
  try clear c1
  try clear p2
  try clear p6
  try clear c7
  try clear c8
  try clear hcz9_0
  try clear hcz9_1
  try clear hfz9_0
  try clear hfz9_1
  obtain ⟨x4_1, x1001_1, x105001_1, u105001, rfl, HA, HK1, HO_105001, BK101, BK104, HI0, HK, HB⟩ := hrel
  cases gk with
  | zero => exact absurd HA.out (by simp [spec_l30Net.l0])
  | succ k1 =>
   have H := HA.out
   clear HA
   simp only [spec_l30Net.l0] at H
   by_cases c11 : x4_1 > 0
   ·
    rw [if_pos c11] at H
    have c11b0 : decide (0 < x4_1) = true := decide_eq_true c11
    clear c11
    replace H := Option.bind_eq_some_iff.mp H
    obtain ⟨⟨t107, t108⟩, A120, H⟩ := H
    replace H : ((spec_l30Rd_pick.f k1 s0_0 t108 (wrap64 (2 + t102))).bind fun bt109 => ((spec_l30Rd_pick.f k1 s0_0 bt109.2 100).bind fun bt111 => ((spec_l30Rd_one.f k1 s0_0 bt111.2 (([0, 1, 2, 5, 9, bt111.1] : List Int))).bind fun bt116 => ((spec_l30Rd_one.f k1 s0_0 bt116.2 (([0, 0, 3, 8] : List Int))).bind fun bt121 => ((spec_l30Rd_pick.f k1 s0_0 bt121.2 10).bind fun bt123 => (if t107 = bt109.1 then (if (wrap64 (2 + t102)) = 0 then (none) else (if x105001_1.length < 3518437208883 then (spec_l30Net.l0 k1 (wrap64 (x4_1 - 1)) s0_0 bt123.2 (wrap64 (2 + t102)) (x105001_1 ++ [(⟨t107, Int.tmod (wrap64 (bt109.1 + 1)) (wrap64 (2 + t102)), bt116.1, bt121.1, bt123.1⟩ : S33)])) else (none))) else (if x105001_1.length < 3518437208883 then (spec_l30Net.l0 k1 (wrap64 (x4_1 - 1)) s0_0 bt123.2 (wrap64 (2 + t102)) (x105001_1 ++ [(⟨t107, bt109.1, bt116.1, bt121.1, bt123.1⟩ : S33)])) else (none)))))))) = some (r1, r2, r3) := H
    have A12 := Aside0.mk A120
    clear A120
    replace H := Option.bind_eq_some_iff.mp H
    obtain ⟨⟨t109, t110⟩, A130, H⟩ := H
    replace H : ((spec_l30Rd_pick.f k1 s0_0 t110 100).bind fun bt111 => ((spec_l30Rd_one.f k1 s0_0 bt111.2 (([0, 1, 2, 5, 9, bt111.1] : List Int))).bind fun bt116 => ((spec_l30Rd_one.f k1 s0_0 bt116.2 (([0, 0, 3, 8] : List Int))).bind fun bt121 => ((spec_l30Rd_pick.f k1 s0_0 bt121.2 10).bind fun bt123 => (if t107 = t109 then (if (wrap64 (2 + t102)) = 0 then (none) else (if x105001_1.length < 3518437208883 then (spec_l30Net.l0 k1 (wrap64 (x4_1 - 1)) s0_0 bt123.2 (wrap64 (2 + t102)) (x105001_1 ++ [(⟨t107, Int.tmod (wrap64 (t109 + 1)) (wrap64 (2 + t102)), bt116.1, bt121.1, bt123.1⟩ : S33)])) else (none))) else (if x105001_1.length < 3518437208883 then (spec_l30Net.l0 k1 (wrap64 (x4_1 - 1)) s0_0 bt123.2 (wrap64 (2 + t102)) (x105001_1 ++ [(⟨t107, t109, bt116.1, bt121.1, bt123.1⟩ : S33)])) else (none))))))) = some (r1, r2, r3) := H
    have A13 := Aside0.mk A130
    clear A130
    replace H := Option.bind_eq_some_iff.mp H
    obtain ⟨⟨t111, t112⟩, A140, H⟩ := H
    replace H : ((spec_l30Rd_one.f k1 s0_0 t112 (([0, 1, 2, 5, 9, t111] : List Int))).bind fun bt116 => ((spec_l30Rd_one.f k1 s0_0 bt116.2 (([0, 0, 3, 8] : List Int))).bind fun bt121 => ((spec_l30Rd_pick.f k1 s0_0 bt121.2 10).bind fun bt123 => (if t107 = t109 then (if (wrap64 (2 + t102)) = 0 then (none) else (if x105001_1.length < 3518437208883 then (spec_l30Net.l0 k1 (wrap64 (x4_1 - 1)) s0_0 bt123.2 (wrap64 (2 + t102)) (x105001_1 ++ [(⟨t107, Int.tmod (wrap64 (t109 + 1)) (wrap64 (2 + t102)), bt116.1, bt121.1, bt123.1⟩ : S33)])) else (none))) else (if x105001_1.length < 3518437208883 then (spec_l30Net.l0 k1 (wrap64 (x4_1 - 1)) s0_0 bt123.2 (wrap64 (2 + t102)) (x105001_1 ++ [(⟨t107, t109, bt116.1, bt121.1, bt123.1⟩ : S33)])) else (none)))))) = some (r1, r2, r3) := H
    have A14 := Aside0.mk A140
    clear A140
    obtain ⟨y113, hy113⟩ : ∃ y_ : List Int, y_ = (([0, 1, 2, 5, 9, t111] : List Int)) := ⟨_, rfl⟩
    replace H : ((spec_l30Rd_one.f k1 s0_0 t112 y113).bind fun bt116 => ((spec_l30Rd_one.f k1 s0_0 bt116.2 (([0, 0, 3, 8] : List Int))).bind fun bt121 => ((spec_l30Rd_pick.f k1 s0_0 bt121.2 10).bind fun bt123 => (if t107 = t109 then (if (wrap64 (2 + t102)) = 0 then (none) else (if x105001_1.length < 3518437208883 then (spec_l30Net.l0 k1 (wrap64 (x4_1 - 1)) s0_0 bt123.2 (wrap64 (2 + t102)) (x105001_1 ++ [(⟨t107, Int.tmod (wrap64 (t109 + 1)) (wrap64 (2 + t102)), bt116.1, bt121.1, bt123.1⟩ : S33)])) else (none))) else (if x105001_1.length < 3518437208883 then (spec_l30Net.l0 k1 (wrap64 (x4_1 - 1)) s0_0 bt123.2 (wrap64 (2 + t102)) (x105001_1 ++ [(⟨t107, t109, bt116.1, bt121.1, bt123.1⟩ : S33)])) else (none)))))) = some (r1, r2, r3) := by first | (rw [hy113]; with_reducible exact H) | (have H2_ := (Option.bind_some _ _).symm.trans H; rw [hy113]; with_reducible exact H2_) | (have H2_ := (Option.bind_some _ _).symm.trans H; with_reducible exact H2_) | with_reducible exact H | (rw [hy113]; exact H) | exact H
    have Ny113 := Aside0.mk hy113
    clear hy113
    replace H := Option.bind_eq_some_iff.mp H
    obtain ⟨⟨t116, t117⟩, A150, H⟩ := H
    replace H : ((spec_l30Rd_one.f k1 s0_0 t117 (([0, 0, 3, 8] : List Int))).bind fun bt121 => ((spec_l30Rd_pick.f k1 s0_0 bt121.2 10).bind fun bt123 => (if t107 = t109 then (if (wrap64 (2 + t102)) = 0 then (none) else (if x105001_1.length < 3518437208883 then (spec_l30Net.l0 k1 (wrap64 (x4_1 - 1)) s0_0 bt123.2 (wrap64 (2 + t102)) (x105001_1 ++ [(⟨t107, Int.tmod (wrap64 (t109 + 1)) (wrap64 (2 + t102)), t116, bt121.1, bt123.1⟩ : S33)])) else (none))) else (if x105001_1.length < 3518437208883 then (spec_l30Net.l0 k1 (wrap64 (x4_1 - 1)) s0_0 bt123.2 (wrap64 (2 + t102)) (x105001_1 ++ [(⟨t107, t109, t116, bt121.1, bt123.1⟩ : S33)])) else (none))))) = some (r1, r2, r3) := H
    have A15 := Aside0.mk A150
    clear A150
    obtain ⟨y118, hy118⟩ : ∃ y_ : List Int, y_ = (([0, 0, 3, 8] : List Int)) := ⟨_, rfl⟩
    replace H : ((spec_l30Rd_one.f k1 s0_0 t117 y118).bind fun bt121 => ((spec_l30Rd_pick.f k1 s0_0 bt121.2 10).bind fun bt123 => (if t107 = t109 then (if (wrap64 (2 + t102)) = 0 then (none) else (if x105001_1.length < 3518437208883 then (spec_l30Net.l0 k1 (wrap64 (x4_1 - 1)) s0_0 bt123.2 (wrap64 (2 + t102)) (x105001_1 ++ [(⟨t107, Int.tmod (wrap64 (t109 + 1)) (wrap64 (2 + t102)), t116, bt121.1, bt123.1⟩ : S33)])) else (none))) else (if x105001_1.length < 3518437208883 then (spec_l30Net.l0 k1 (wrap64 (x4_1 - 1)) s0_0 bt123.2 (wrap64 (2 + t102)) (x105001_1 ++ [(⟨t107, t109, t116, bt121.1, bt123.1⟩ : S33)])) else (none))))) = some (r1, r2, r3) := by first | (rw [hy118]; with_reducible exact H) | (have H2_ := (Option.bind_some _ _).symm.trans H; rw [hy118]; with_reducible exact H2_) | (have H2_ := (Option.bind_some _ _).symm.trans H; with_reducible exact H2_) | with_reducible exact H | (rw [hy118]; exact H) | exact H
    have Ny118 := Aside0.mk hy118
    clear hy118
    replace H := Option.bind_eq_some_iff.mp H
    obtain ⟨⟨t121, t122⟩, A160, H⟩ := H
    replace H : ((spec_l30Rd_pick.f k1 s0_0 t122 10).bind fun bt123 => (if t107 = t109 then (if (wrap64 (2 + t102)) = 0 then (none) else (if x105001_1.length < 3518437208883 then (spec_l30Net.l0 k1 (wrap64 (x4_1 - 1)) s0_0 bt123.2 (wrap64 (2 + t102)) (x105001_1 ++ [(⟨t107, Int.tmod (wrap64 (t109 + 1)) (wrap64 (2 + t102)), t116, t121, bt123.1⟩ : S33)])) else (none))) else (if x105001_1.length < 3518437208883 then (spec_l30Net.l0 k1 (wrap64 (x4_1 - 1)) s0_0 bt123.2 (wrap64 (2 + t102)) (x105001_1 ++ [(⟨t107, t109, t116, t121, bt123.1⟩ : S33)])) else (none)))) = some (r1, r2, r3) := H
    have A16 := Aside0.mk A160
    clear A160
    replace H := Option.bind_eq_some_iff.mp H
    obtain ⟨⟨t123, t124⟩, A170, H⟩ := H
    replace H : (if t107 = t109 then (if (wrap64 (2 + t102)) = 0 then (none) else (if x105001_1.length < 3518437208883 then (spec_l30Net.l0 k1 (wrap64 (x4_1 - 1)) s0_0 t124 (wrap64 (2 + t102)) (x105001_1 ++ [(⟨t107, Int.tmod (wrap64 (t109 + 1)) (wrap64 (2 + t102)), t116, t121, t123⟩ : S33)])) else (none))) else (if x105001_1.length < 3518437208883 then (spec_l30Net.l0 k1 (wrap64 (x4_1 - 1)) s0_0 t124 (wrap64 (2 + t102)) (x105001_1 ++ [(⟨t107, t109, t116, t121, t123⟩ : S33)])) else (none))) = some (r1, r2, r3) := H
    have A17 := Aside0.mk A170
    clear A170
    have HH_ := Aside0.mk H
    clear H
    try go_wp2
    have n0_ := Aside0.mk (Kd.R_drew HO_105001.out)
    have n1_ := Aside0.mk (blk_drew BK101.out)
    have n2_ := Aside0.mk (blk_drew BK104.out)
    have n3_ := Aside0.mk (IsS115.drew HI0.out)
    have n4_ := Aside0.mk (keep_drew HK.out)
    have n5_ := Aside0.mk (below_drew1 HB.out)
    clear HO_105001
    clear BK101
    clear BK104
    clear HI0
    clear HK
    clear HB
    have HO_105001 := n0_
    have BK101 := n1_
    have BK104 := n2_
    have HI0 := n3_
    have HK := n4_
    have HB := n5_
    clear n0_ n1_ n2_ n3_ n4_ n5_
    refine start_ (n := 21) (S := fun w' => True) (ds := []) #[false, false, false, false, false, false, false, false, false, false, false, false, false, false, false, false, false, false, false, false, false] (by kernel_rfl) rfl rfl trivial (fun hHeld => ?_); refine with_tabW spec_l30Net.tab5 spec_l30Net.bits5 (fun HT_ HW_ => ?_)
    generalize wr.drew = w52 at HO_105001 BK101 BK104 HI0 HK HB hHeld ⊢
    refine pure_ (i := 0) (N := some 16) (v := ?_) (a' := ?_) #[true, false, false, false, false, false, false, false, false, false, false, false, false, false, false, false, false, false, false, false, false] rfl rfl (any_of HT_.out (by kernel_rfl)) (fun _ _ _ h => h) (Or.inl ⟨by rfl, ?_⟩) ?_ ?_
    rotate_left
    ·
     intro w'
     go_simp
     with_reducible rfl
    rotate_left
    ·
     simp only [Act.put, List.setIfInBounds_toArray, List.set_cons_zero, List.set_cons_succ, i64_w, i32_w]
     rfl
    refine pure_ (i := 1) (N := some 17) (v := ?_) (a' := ?_) #[true, true, false, false, false, false, false, false, false, false, false, false, false, false, false, false, false, false, false, false, false] rfl rfl (any_of HT_.out (by kernel_rfl)) (fun _ _ _ h => h) (Or.inl ⟨by rfl, ?_⟩) ?_ ?_
    rotate_left
    ·
     intro w'
     go_simp
     with_reducible rfl
    rotate_left
    ·
     simp only [Act.put, List.setIfInBounds_toArray, List.set_cons_zero, List.set_cons_succ, i64_w, i32_w]
     rfl
    refine pure_ (i := 4) (N := some 20) (v := ?_) (a' := ?_) #[true, true, false, false, true, false, false, false, false, false, false, false, false, false, false, false, false, false, false, false, false] rfl rfl (any_of HT_.out (by kernel_rfl)) (fun _ _ _ h => h) (Or.inl ⟨by rfl, ?_⟩) ?_ ?_
    rotate_left
    ·
     intro w'
     go_simp
     with_reducible rfl
    rotate_left
    ·
     simp only [Act.put, List.setIfInBounds_toArray, List.set_cons_zero, List.set_cons_succ, i64_w, i32_w]
     rfl
    refine pure_ (i := 5) (N := some 21) (v := ?_) (a' := ?_) #[true, true, false, false, true, true, false, false, false, false, false, false, false, false, false, false, false, false, false, false, false] rfl rfl (any_of HT_.out (by kernel_rfl)) (fun _ _ _ h => h) (Or.inl ⟨by rfl, ?_⟩) ?_ ?_
    rotate_left
    ·
     intro w'
     go_simp
     with_reducible rfl
    rotate_left
    ·
     simp only [Act.put, List.setIfInBounds_toArray, List.set_cons_zero, List.set_cons_succ, i64_w, i32_w]
     rfl
    refine pure_ (i := 8) (N := some 24) (v := ?_) (a' := ?_) #[true, true, false, false, true, true, false, false, true, false, false, false, false, false, false, false, false, false, false, false, false] rfl rfl (any_of HT_.out (by kernel_rfl)) (fun _ _ _ h => h) (Or.inl ⟨by rfl, ?_⟩) ?_ ?_
    rotate_left
    ·
     intro w'
     go_simp
     with_reducible rfl
    rotate_left
    ·
     simp only [Act.put, List.setIfInBounds_toArray, List.set_cons_zero, List.set_cons_succ, i64_w, i32_w]
     rfl
    refine pure_ (i := 9) (N := some 25) (v := ?_) (a' := ?_) #[true, true, false, false, true, true, false, false, true, true, false, false, false, false, false, false, false, false, false, false, false] rfl rfl (any_of HT_.out (by kernel_rfl)) (fun _ _ _ h => h) (Or.inl ⟨by rfl, ?_⟩) ?_ ?_
    rotate_left
    ·
     intro w'
     go_simp
     with_reducible rfl
    rotate_left
    ·
     simp only [Act.put, List.setIfInBounds_toArray, List.set_cons_zero, List.set_cons_succ, i64_w, i32_w]
     rfl
    refine pure_ (i := 13) (N := some 29) (v := ?_) (a' := ?_) #[true, true, false, false, true, true, false, false, true, true, false, false, false, true, false, false, false, false, false, false, false] rfl rfl (any_of HT_.out (by kernel_rfl)) (fun _ _ _ h => h) (Or.inl ⟨by rfl, ?_⟩) ?_ ?_
    rotate_left
    ·
     intro w'
     go_simp
     with_reducible rfl
    rotate_left
    ·
     simp only [Act.put, List.setIfInBounds_toArray, List.set_cons_zero, List.set_cons_succ, i64_w, i32_w]
     rfl
    refine pure_ (i := 16) (N := some 32) (v := ?_) (a' := ?_) #[true, true, false, false, true, true, false, false, true, true, false, false, false, true, false, false, true, false, false, false, false] rfl rfl (any_of HT_.out (by kernel_rfl)) (fun _ _ _ h => h) (Or.inl ⟨by rfl, ?_⟩) ?_ ?_
    rotate_left
    ·
     intro w'
     go_simp
     with_reducible rfl
    rotate_left
    ·
     simp only [Act.put, List.setIfInBounds_toArray, List.set_cons_zero, List.set_cons_succ, i64_w, i32_w]
     rfl
    refine inv_at [2, 3, 6, 7, 10, 11, 12, 14, 15, 17, 18, 19, 20] (fun a0_ b a w' => ∃ (v114 : Value) (v119 : Value) (gb125 : Nat) (m19_ : Value), a = putSel a0_ b [(2, 18, .int .i64 (wrap64 (2 + t102))), (3, 19, .int .i64 t107), (6, 22, .int .i64 (wrap64 (2 + t102))), (7, 23, .int .i64 t109), (10, 26, .int .i64 t111), (11, 27, v114), (12, 28, .int .i64 t116), (14, 30, v119), (15, 31, .int .i64 t121), (17, 33, .int .i64 t123), (18, 34, .agg #[.int .i64 t107, .int .i64 t109, .int .i64 t116, .int .i64 t121, .int .i64 t123]), (19, 5, m19_)] ∧ (b 19 = false → Kd.R k33 33 w' w.heap.size (fun _ => True) u105001 x105001_1) ∧ (w'.heap[gb101]? = some (.cells #[.int .i64 0, .slice none 0 0] 25 (0, 0))) ∧ (w'.heap[gb104]? = some (.cells #[.int .i64 (wrap64 (2 + t102)), u105001] 25 (0, 0))) ∧ (b 3 = false → IsS115 w0 w' g s0_0 x1001_1) ∧ (KeepBut w w' g none) ∧ (Below w0.heap.size w0 w') ∧ (b 3 = true → b 7 = false → IsS115 w0 w' g s0_0 t108) ∧ (b 7 = true → b 10 = false → IsS115 w0 w' g s0_0 t110) ∧ (b 10 = true → b 12 = false → IsS115 w0 w' g s0_0 t112) ∧ (b 11 = true → Kd.R (Kd.int .i64) 3 w' w.heap.size (fun _ => True) v114 y113) ∧ (b 12 = true → b 15 = false → IsS115 w0 w' g s0_0 t117) ∧ (b 14 = true → Kd.R (Kd.int .i64) 3 w' w.heap.size (fun _ => True) v119 y118) ∧ (b 15 = true → b 17 = false → IsS115 w0 w' g s0_0 t122) ∧ (b 17 = true → IsS115 w0 w' g s0_0 t124) ∧ (b 19 = true → Kd.R k33 33 w' w.heap.size (fun k_ => k_ ≠ gb125) u105001 x105001_1) ∧ (b 19 = true → b 20 = false → w'.heap[gb125]? = some (.cells #[.int .i64 0, .int .i64 0, .int .i64 0, .int .i64 0, .int .i64 0] 33 (0, 0))) ∧ (b 19 = true → w.heap.size ≤ gb125) ∧ (b 19 = true → w0.heap.size ≤ gb125) ∧ (b 19 = true → g ≠ gb125) ∧ (b 19 = true → gb125 ≠ g) ∧ (b 19 = true → gb101 ≠ gb125) ∧ (b 19 = true → gb125 ≠ gb101) ∧ (b 19 = true → gb104 ≠ gb125) ∧ (b 19 = true → gb125 ≠ gb104) ∧ (b 20 = true → w'.heap[gb125]? = some (.cells #[.int .i64 t107, .int .i64 t109, .int .i64 t116, .int .i64 t121, .int .i64 t123] 33 (0, 0))) ∧ (b 19 = true → (m19_ : Value) = .pointer (some ⟨gb125, 0, none⟩))) HT_.out HW_.out (by kernel_rfl) (by kernel_rfl) ?_ ?_ ?_
    ·
     exact ⟨.bool false, .bool false, 0, .bool false, by simp only [putSel, Bool.false_eq_true, if_false], fun _ => HO_105001.out, BK101.out, BK104.out, fun _ => HI0.out, HK.out, HB.out, fun h_ => absurd h_ (by decide), fun h_ => absurd h_ (by decide), fun h_ => absurd h_ (by decide), fun h_ => absurd h_ (by decide), fun h_ => absurd h_ (by decide), fun h_ => absurd h_ (by decide), fun h_ => absurd h_ (by decide), fun h_ => absurd h_ (by decide), fun h_ => absurd h_ (by decide), fun h_ => absurd h_ (by decide), fun h_ => absurd h_ (by decide), fun h_ => absurd h_ (by decide), fun h_ => absurd h_ (by decide), fun h_ => absurd h_ (by decide), fun h_ => absurd h_ (by decide), fun h_ => absurd h_ (by decide), fun h_ => absurd h_ (by decide), fun h_ => absurd h_ (by decide), fun h_ => absurd h_ (by decide), fun h_ => absurd h_ (by decide)⟩
    ·
     skip
     clear BK101 BK104 HB HI0 HK HO_105001
     refine steps_cons ?_ ?_
     ·
      rintro b a w' ⟨v114, v119, gb125, m19_, ha, Q_HO_105001, Q_BK101, Q_BK104, Q_HI0, Q_HK, Q_HB, Q_HI0_e3, Q_HI0_e7, Q_HI0_e10, Q_HO115, Q_HI0_e12, Q_HO120, Q_HI0_e15, Q_HI0_e17, Q_HO_105001_e19, Q_BK125, Q_GW125, Q_GE125, Q_NB0_125, Q_NB125_0, Q_NB101_125, Q_NB125_101, Q_NB104_125, Q_NB125_104, Q_BK125_e20, Q_X19_⟩ hb_ hon hoff
      refine ⟨_, rfl, fun K hK => ?_⟩
      have e17 : a.tmps[17]? = some (.pointer (some ⟨gb104, 0, none⟩)) := by rw [ha]; exact (putSel_off rfl).trans rfl
      replace ha := Aside0.mk ha
      have BK101 := Aside0.mk Q_BK101
      have BK104 := Aside0.mk Q_BK104
      have HI0 := Aside0.mk (Q_HI0 (hoff 3 (by kernel_rfl)))
      have HK := Aside0.mk Q_HK
      have HB := Aside0.mk Q_HB
      have hc0_ : w'.cell? ⟨gb104, 0, none⟩ = some (.int .i64 (wrap64 (2 + t102))) := (blk_cell BK104.out 0).trans rfl
      have hc1_ : w'.cell? ⟨gb104, 1, none⟩ = some (u105001) := (blk_cell BK104.out 1).trans rfl
      refine value_ (w1 := w') (v := .int .i64 (wrap64 (2 + t102))) (by rfl) rfl ?_ ?_
      ·
       go_simp
       (try simp only [i64_w])
       try rfl
      refine hK.out _ _ ⟨v114, v119, gb125, m19_, (by rw [ha.out]; exact putSel_upk 0 hb_ rfl rfl rfl), Q_HO_105001, Q_BK101, Q_BK104, Q_HI0, Q_HK, Q_HB, fun h0_ _ => absurd ((hoff 3 (by kernel_rfl)).symm.trans h0_) (by decide), fun h0_ _ => absurd ((hoff 7 (by kernel_rfl)).symm.trans h0_) (by decide), fun h0_ _ => absurd ((hoff 10 (by kernel_rfl)).symm.trans h0_) (by decide), fun h0_ => absurd ((hoff 11 (by kernel_rfl)).symm.trans h0_) (by decide), fun h0_ _ => absurd ((hoff 12 (by kernel_rfl)).symm.trans h0_) (by decide), Q_HO120, fun h0_ _ => absurd ((hoff 15 (by kernel_rfl)).symm.trans h0_) (by decide), fun h0_ => absurd ((hoff 17 (by kernel_rfl)).symm.trans h0_) (by decide), Q_HO_105001_e19, Q_BK125, Q_GW125, Q_GE125, Q_NB0_125, Q_NB125_0, Q_NB101_125, Q_NB125_101, Q_NB104_125, Q_NB125_104, fun h0_ => absurd ((hoff 20 (by kernel_rfl)).symm.trans h0_) (by decide), Q_X19_⟩
     refine steps_cons ?_ ?_
     ·
      rintro b a w' ⟨v114, v119, gb125, m19_, ha, Q_HO_105001, Q_BK101, Q_BK104, Q_HI0, Q_HK, Q_HB, Q_HI0_e3, Q_HI0_e7, Q_HI0_e10, Q_HO115, Q_HI0_e12, Q_HO120, Q_HI0_e15, Q_HI0_e17, Q_HO_105001_e19, Q_BK125, Q_GW125, Q_GE125, Q_NB0_125, Q_NB125_0, Q_NB101_125, Q_NB125_101, Q_NB104_125, Q_NB125_104, Q_BK125_e20, Q_X19_⟩ hb_ hon hoff
      refine ⟨_, rfl, fun K hK => ?_⟩
      have e16 : a.tmps[16]? = some (.pointer (some ⟨g, 0, none⟩)) := by rw [ha]; exact (putSel_off rfl).trans rfl
      have e18 : a.tmps[18]? = some (.int .i64 (wrap64 (2 + t102))) := by rw [ha]; exact putSel_on (e := (2, 18, .int .i64 (wrap64 (2 + t102)))) 0 rfl rfl (hon 2 (by kernel_rfl)) rfl
      replace ha := Aside0.mk ha
      have BK101 := Aside0.mk Q_BK101
      have BK104 := Aside0.mk Q_BK104
      have HI0 := Aside0.mk (Q_HI0 hb_)
      have HK := Aside0.mk Q_HK
      have HB := Aside0.mk Q_HB
      refine goes_ Try.func137 (by kernel_rfl) rfl #[.pointer (some ⟨g, 0, none⟩), .int .i64 (wrap64 (2 + t102))] (by rfl) rfl rfl (by first | (simp only [List.map_toArray, List.map_cons, List.map_nil, Act.eval, Array.getD_eq_getD_getElem?, Option.getD_some, e16, e18]; done) | (simp only [List.map_toArray, List.map_cons, List.map_nil, Act.eval, Array.getD_eq_getD_getElem?, Option.getD_some, e16, e18]; rfl)) ?_
      with_reducible refine (spec_l30Rd_pick.calls k1 g s0_0 x1001_1 (wrap64 (2 + t102)) t107 t108 w0 _ ?side1 ?side2 A12.out).mono ?_
      (case side1 => exact uI2 HI0 NB0_101.out NB0_104.out)
      (case side2 => exact uB3 HB (IsS115.ge HI0.out) GE101.out GE104.out)
      rintro e w53 ⟨rfl, hi, hb, hk⟩
      refine ⟨_, rfl, ?_⟩
      have n1_ := Aside0.mk (KeepBut.blk hk (g' := gb101) (o := .cells #[.int .i64 0, .slice none 0 0] 25 (0, 0)) (ub BK101) NB101_0.out (by simp))
      have n2_ := Aside0.mk (KeepBut.blk hk (g' := gb104) (o := .cells #[.int .i64 (wrap64 (2 + t102)), u105001] 25 (0, 0)) (ub BK104) NB104_0.out (by simp))
      have n3_ := Aside0.mk (KeepBut.trans (uK2 HK GW101.out GW104.out) hk (.inl rfl))
      have n4_ := Aside0.mk (hb)
      have n5_ := Aside0.mk (hi)
      have z_HO_105001 := fun (h0_ : b 19 = false) => (show Kd.R k33 33 w53 w.heap.size (fun _ => True) u105001 x105001_1 from by first | exact (Kd.R_mono (Kd.R_keep (IsS115.apart (show IsS115 w0 _ g s0_0 x1001_1 from uI2 HI0 NB0_101.out NB0_104.out) (by (with_reducible repeat (first | apply Kd.R_alloc | apply Kd.R_drewN | apply Kd.R_drew)); exact (Q_HO_105001 h0_)) (by decide)) hk (fun _ h => h.2)) (fun _ h => h.1)) | exact Kd.R_mono (Kd.R_mono (Kd.R_keep (IsS115.apart (show IsS115 w0 _ g s0_0 x1001_1 from uI2 HI0 NB0_101.out NB0_104.out) (by (with_reducible repeat (first | apply Kd.R_alloc | apply Kd.R_drewN | apply Kd.R_drew)); exact (Q_HO_105001 h0_)) (by decide)) hk (fun _ h => h.2)) (fun _ h => h.1)) (fun _ h_ => by first | trivial | exact h_ | exact h_.1))
      have z_HO120 := fun (h0_ : b 14 = true) => (show Kd.R (Kd.int .i64) 3 w53 w.heap.size (fun _ => True) v119 y118 from by first | exact (Kd.R_mono (Kd.R_keep (IsS115.apart (show IsS115 w0 _ g s0_0 x1001_1 from uI2 HI0 NB0_101.out NB0_104.out) (by (with_reducible repeat (first | apply Kd.R_alloc | apply Kd.R_drewN | apply Kd.R_drew)); exact (Q_HO120 h0_)) (by decide)) hk (fun _ h => h.2)) (fun _ h => h.1)) | exact Kd.R_mono (Kd.R_mono (Kd.R_keep (IsS115.apart (show IsS115 w0 _ g s0_0 x1001_1 from uI2 HI0 NB0_101.out NB0_104.out) (by (with_reducible repeat (first | apply Kd.R_alloc | apply Kd.R_drewN | apply Kd.R_drew)); exact (Q_HO120 h0_)) (by decide)) hk (fun _ h => h.2)) (fun _ h => h.1)) (fun _ h_ => by first | trivial | exact h_ | exact h_.1))
      have z_HO_105001_e19 := fun (h0_ : b 19 = true) => (show Kd.R k33 33 w53 w.heap.size (fun k_ => k_ ≠ gb125) u105001 x105001_1 from by first | exact (Kd.R_mono (Kd.R_keep (IsS115.apart (show IsS115 w0 _ g s0_0 x1001_1 from uI3 HI0 NB0_101.out NB0_104.out (Q_NB0_125 h0_)) (by (with_reducible repeat (first | apply Kd.R_alloc | apply Kd.R_drewN | apply Kd.R_drew)); exact (Q_HO_105001_e19 h0_)) (by decide)) hk (fun _ h => h.2)) (fun _ h => h.1)) | exact Kd.R_mono (Kd.R_mono (Kd.R_keep (IsS115.apart (show IsS115 w0 _ g s0_0 x1001_1 from uI3 HI0 NB0_101.out NB0_104.out (Q_NB0_125 h0_)) (by (with_reducible repeat (first | apply Kd.R_alloc | apply Kd.R_drewN | apply Kd.R_drew)); exact (Q_HO_105001_e19 h0_)) (by decide)) hk (fun _ h => h.2)) (fun _ h => h.1)) (fun _ h_ => by first | trivial | exact h_ | exact h_.1))
      have z_BK125 := fun (h0_ : b 19 = true) (h1_ : b 20 = false) => (show w53.heap[gb125]? = some (.cells #[.int .i64 0, .int .i64 0, .int .i64 0, .int .i64 0, .int .i64 0] 33 (0, 0)) from by first | exact (KeepBut.blk hk (g' := gb125) (o := .cells #[.int .i64 0, .int .i64 0, .int .i64 0, .int .i64 0, .int .i64 0] 33 (0, 0)) (by (with_reducible repeat (first | refine blk_drewN ?_ _ | refine blk_drew ?_ | refine blk_alloc ?_ _)); exact (Q_BK125 h0_ h1_)) (Q_NB125_0 h0_) (by simp)))
      clear BK101
      clear BK104
      clear HK
      clear HB
      clear HI0
      have BK101 := n1_
      have BK104 := n2_
      have HK := n3_
      have HB := n4_
      have HI0 := n5_
      clear n1_ n2_ n3_ n4_ n5_
      (try clear hb)
      (try clear hb2)
      (try clear hk)
      (try clear hi)
      refine hK.out _ _ ⟨v114, v119, gb125, m19_, (by rw [ha.out]; exact putSel_upk 1 hb_ rfl rfl rfl), z_HO_105001, (ub BK101), (ub BK104), fun h0_ => absurd ((up_self b 3).symm.trans h0_) (by decide), (uK2 HK GW101.out GW104.out), (uB3 HB (IsS115.ge HI0.out) GE101.out GE104.out), fun _ _ => (uI2 HI0 NB0_101.out NB0_104.out), fun h0_ _ => absurd ((hoff 7 (by kernel_rfl)).symm.trans h0_) (by decide), fun h0_ _ => absurd ((hoff 10 (by kernel_rfl)).symm.trans h0_) (by decide), fun h0_ => absurd ((hoff 11 (by kernel_rfl)).symm.trans h0_) (by decide), fun h0_ _ => absurd ((hoff 12 (by kernel_rfl)).symm.trans h0_) (by decide), z_HO120, fun h0_ _ => absurd ((hoff 15 (by kernel_rfl)).symm.trans h0_) (by decide), fun h0_ => absurd ((hoff 17 (by kernel_rfl)).symm.trans h0_) (by decide), z_HO_105001_e19, z_BK125, Q_GW125, Q_GE125, Q_NB0_125, Q_NB125_0, Q_NB101_125, Q_NB125_101, Q_NB104_125, Q_NB125_104, fun h0_ => absurd ((hoff 20 (by kernel_rfl)).symm.trans h0_) (by decide), Q_X19_⟩
     refine steps_cons ?_ ?_
     ·
      rintro b a w' ⟨v114, v119, gb125, m19_, ha, Q_HO_105001, Q_BK101, Q_BK104, Q_HI0, Q_HK, Q_HB, Q_HI0_e3, Q_HI0_e7, Q_HI0_e10, Q_HO115, Q_HI0_e12, Q_HO120, Q_HI0_e15, Q_HI0_e17, Q_HO_105001_e19, Q_BK125, Q_GW125, Q_GE125, Q_NB0_125, Q_NB125_0, Q_NB101_125, Q_NB125_101, Q_NB104_125, Q_NB125_104, Q_BK125_e20, Q_X19_⟩ hb_ hon hoff
      refine ⟨_, rfl, fun K hK => ?_⟩
      have e21 : a.tmps[21]? = some (.pointer (some ⟨gb104, 0, none⟩)) := by rw [ha]; exact (putSel_off rfl).trans rfl
      replace ha := Aside0.mk ha
      have BK101 := Aside0.mk Q_BK101
      have BK104 := Aside0.mk Q_BK104
      have HK := Aside0.mk Q_HK
      have HB := Aside0.mk Q_HB
      have hc0_ : w'.cell? ⟨gb104, 0, none⟩ = some (.int .i64 (wrap64 (2 + t102))) := (blk_cell BK104.out 0).trans rfl
      have hc1_ : w'.cell? ⟨gb104, 1, none⟩ = some (u105001) := (blk_cell BK104.out 1).trans rfl
      refine value_ (w1 := w') (v := .int .i64 (wrap64 (2 + t102))) (by rfl) rfl ?_ ?_
      ·
       go_simp
       (try simp only [i64_w])
       try rfl
      refine hK.out _ _ ⟨v114, v119, gb125, m19_, (by rw [ha.out]; exact putSel_upk 2 hb_ rfl rfl rfl), Q_HO_105001, Q_BK101, Q_BK104, Q_HI0, Q_HK, Q_HB, Q_HI0_e3, fun h0_ _ => absurd ((hoff 7 (by kernel_rfl)).symm.trans h0_) (by decide), fun h0_ _ => absurd ((hoff 10 (by kernel_rfl)).symm.trans h0_) (by decide), fun h0_ => absurd ((hoff 11 (by kernel_rfl)).symm.trans h0_) (by decide), fun h0_ _ => absurd ((hoff 12 (by kernel_rfl)).symm.trans h0_) (by decide), Q_HO120, fun h0_ _ => absurd ((hoff 15 (by kernel_rfl)).symm.trans h0_) (by decide), fun h0_ => absurd ((hoff 17 (by kernel_rfl)).symm.trans h0_) (by decide), Q_HO_105001_e19, Q_BK125, Q_GW125, Q_GE125, Q_NB0_125, Q_NB125_0, Q_NB101_125, Q_NB125_101, Q_NB104_125, Q_NB125_104, fun h0_ => absurd ((hoff 20 (by kernel_rfl)).symm.trans h0_) (by decide), Q_X19_⟩
     refine steps_cons ?_ ?_
     ·
      rintro b a w' ⟨v114, v119, gb125, m19_, ha, Q_HO_105001, Q_BK101, Q_BK104, Q_HI0, Q_HK, Q_HB, Q_HI0_e3, Q_HI0_e7, Q_HI0_e10, Q_HO115, Q_HI0_e12, Q_HO120, Q_HI0_e15, Q_HI0_e17, Q_HO_105001_e19, Q_BK125, Q_GW125, Q_GE125, Q_NB0_125, Q_NB125_0, Q_NB101_125, Q_NB125_101, Q_NB104_125, Q_NB125_104, Q_BK125_e20, Q_X19_⟩ hb_ hon hoff
      refine ⟨_, rfl, fun K hK => ?_⟩
      have e20 : a.tmps[20]? = some (.pointer (some ⟨g, 0, none⟩)) := by rw [ha]; exact (putSel_off rfl).trans rfl
      have e22 : a.tmps[22]? = some (.int .i64 (wrap64 (2 + t102))) := by rw [ha]; exact putSel_on (e := (6, 22, .int .i64 (wrap64 (2 + t102)))) 2 rfl rfl (hon 6 (by kernel_rfl)) rfl
      replace ha := Aside0.mk ha
      have BK101 := Aside0.mk Q_BK101
      have BK104 := Aside0.mk Q_BK104
      have HK := Aside0.mk Q_HK
      have HB := Aside0.mk Q_HB
      have HI0 := Aside0.mk (Q_HI0_e3 (hon 3 (by kernel_rfl)) hb_)
      refine goes_ Try.func137 (by kernel_rfl) rfl #[.pointer (some ⟨g, 0, none⟩), .int .i64 (wrap64 (2 + t102))] (by rfl) rfl rfl (by first | (simp only [List.map_toArray, List.map_cons, List.map_nil, Act.eval, Array.getD_eq_getD_getElem?, Option.getD_some, e20, e22]; done) | (simp only [List.map_toArray, List.map_cons, List.map_nil, Act.eval, Array.getD_eq_getD_getElem?, Option.getD_some, e20, e22]; rfl)) ?_
      with_reducible refine (spec_l30Rd_pick.calls k1 g s0_0 t108 (wrap64 (2 + t102)) t109 t110 w0 _ ?side1 ?side2 A13.out).mono ?_
      (case side1 => exact uI2 HI0 NB0_101.out NB0_104.out)
      (case side2 => exact uB3 HB (IsS115.ge HI0.out) GE101.out GE104.out)
      rintro e w55 ⟨rfl, hi, hb, hk⟩
      refine ⟨_, rfl, ?_⟩
      have n1_ := Aside0.mk (KeepBut.blk hk (g' := gb101) (o := .cells #[.int .i64 0, .slice none 0 0] 25 (0, 0)) (ub BK101) NB101_0.out (by simp))
      have n2_ := Aside0.mk (KeepBut.blk hk (g' := gb104) (o := .cells #[.int .i64 (wrap64 (2 + t102)), u105001] 25 (0, 0)) (ub BK104) NB104_0.out (by simp))
      have n3_ := Aside0.mk (KeepBut.trans (uK2 HK GW101.out GW104.out) hk (.inl rfl))
      have n4_ := Aside0.mk (hb)
      have n5_ := Aside0.mk (hi)
      have z_HO_105001 := fun (h0_ : b 19 = false) => (show Kd.R k33 33 w55 w.heap.size (fun _ => True) u105001 x105001_1 from by first | exact (Kd.R_mono (Kd.R_keep (IsS115.apart (show IsS115 w0 _ g s0_0 t108 from uI2 HI0 NB0_101.out NB0_104.out) (by (with_reducible repeat (first | apply Kd.R_alloc | apply Kd.R_drewN | apply Kd.R_drew)); exact (Q_HO_105001 h0_)) (by decide)) hk (fun _ h => h.2)) (fun _ h => h.1)) | exact Kd.R_mono (Kd.R_mono (Kd.R_keep (IsS115.apart (show IsS115 w0 _ g s0_0 t108 from uI2 HI0 NB0_101.out NB0_104.out) (by (with_reducible repeat (first | apply Kd.R_alloc | apply Kd.R_drewN | apply Kd.R_drew)); exact (Q_HO_105001 h0_)) (by decide)) hk (fun _ h => h.2)) (fun _ h => h.1)) (fun _ h_ => by first | trivial | exact h_ | exact h_.1))
      have z_HO120 := fun (h0_ : b 14 = true) => (show Kd.R (Kd.int .i64) 3 w55 w.heap.size (fun _ => True) v119 y118 from by first | exact (Kd.R_mono (Kd.R_keep (IsS115.apart (show IsS115 w0 _ g s0_0 t108 from uI2 HI0 NB0_101.out NB0_104.out) (by (with_reducible repeat (first | apply Kd.R_alloc | apply Kd.R_drewN | apply Kd.R_drew)); exact (Q_HO120 h0_)) (by decide)) hk (fun _ h => h.2)) (fun _ h => h.1)) | exact Kd.R_mono (Kd.R_mono (Kd.R_keep (IsS115.apart (show IsS115 w0 _ g s0_0 t108 from uI2 HI0 NB0_101.out NB0_104.out) (by (with_reducible repeat (first | apply Kd.R_alloc | apply Kd.R_drewN | apply Kd.R_drew)); exact (Q_HO120 h0_)) (by decide)) hk (fun _ h => h.2)) (fun _ h => h.1)) (fun _ h_ => by first | trivial | exact h_ | exact h_.1))
      have z_HO_105001_e19 := fun (h0_ : b 19 = true) => (show Kd.R k33 33 w55 w.heap.size (fun k_ => k_ ≠ gb125) u105001 x105001_1 from by first | exact (Kd.R_mono (Kd.R_keep (IsS115.apart (show IsS115 w0 _ g s0_0 t108 from uI3 HI0 NB0_101.out NB0_104.out (Q_NB0_125 h0_)) (by (with_reducible repeat (first | apply Kd.R_alloc | apply Kd.R_drewN | apply Kd.R_drew)); exact (Q_HO_105001_e19 h0_)) (by decide)) hk (fun _ h => h.2)) (fun _ h => h.1)) | exact Kd.R_mono (Kd.R_mono (Kd.R_keep (IsS115.apart (show IsS115 w0 _ g s0_0 t108 from uI3 HI0 NB0_101.out NB0_104.out (Q_NB0_125 h0_)) (by (with_reducible repeat (first | apply Kd.R_alloc | apply Kd.R_drewN | apply Kd.R_drew)); exact (Q_HO_105001_e19 h0_)) (by decide)) hk (fun _ h => h.2)) (fun _ h => h.1)) (fun _ h_ => by first | trivial | exact h_ | exact h_.1))
      have z_BK125 := fun (h0_ : b 19 = true) (h1_ : b 20 = false) => (show w55.heap[gb125]? = some (.cells #[.int .i64 0, .int .i64 0, .int .i64 0, .int .i64 0, .int .i64 0] 33 (0, 0)) from by first | exact (KeepBut.blk hk (g' := gb125) (o := .cells #[.int .i64 0, .int .i64 0, .int .i64 0, .int .i64 0, .int .i64 0] 33 (0, 0)) (by (with_reducible repeat (first | refine blk_drewN ?_ _ | refine blk_drew ?_ | refine blk_alloc ?_ _)); exact (Q_BK125 h0_ h1_)) (Q_NB125_0 h0_) (by simp)))
      clear BK101
      clear BK104
      clear HK
      clear HB
      clear HI0
      have BK101 := n1_
      have BK104 := n2_
      have HK := n3_
      have HB := n4_
      have HI0 := n5_
      clear n1_ n2_ n3_ n4_ n5_
      (try clear hb)
      (try clear hb2)
      (try clear hk)
      (try clear hi)
      refine hK.out _ _ ⟨v114, v119, gb125, m19_, (by rw [ha.out]; exact putSel_upk 3 hb_ rfl rfl rfl), z_HO_105001, (ub BK101), (ub BK104), fun h0_ => absurd ((hon 3 (by kernel_rfl)).symm.trans h0_) (by decide), (uK2 HK GW101.out GW104.out), (uB3 HB (IsS115.ge HI0.out) GE101.out GE104.out), fun _ h1_ => absurd ((up_self b 7).symm.trans h1_) (by decide), fun _ _ => (uI2 HI0 NB0_101.out NB0_104.out), fun h0_ _ => absurd ((hoff 10 (by kernel_rfl)).symm.trans h0_) (by decide), fun h0_ => absurd ((hoff 11 (by kernel_rfl)).symm.trans h0_) (by decide), fun h0_ _ => absurd ((hoff 12 (by kernel_rfl)).symm.trans h0_) (by decide), z_HO120, fun h0_ _ => absurd ((hoff 15 (by kernel_rfl)).symm.trans h0_) (by decide), fun h0_ => absurd ((hoff 17 (by kernel_rfl)).symm.trans h0_) (by decide), z_HO_105001_e19, z_BK125, Q_GW125, Q_GE125, Q_NB0_125, Q_NB125_0, Q_NB101_125, Q_NB125_101, Q_NB104_125, Q_NB125_104, fun h0_ => absurd ((hoff 20 (by kernel_rfl)).symm.trans h0_) (by decide), Q_X19_⟩
     refine steps_cons ?_ ?_
     ·
      rintro b a w' ⟨v114, v119, gb125, m19_, ha, Q_HO_105001, Q_BK101, Q_BK104, Q_HI0, Q_HK, Q_HB, Q_HI0_e3, Q_HI0_e7, Q_HI0_e10, Q_HO115, Q_HI0_e12, Q_HO120, Q_HI0_e15, Q_HI0_e17, Q_HO_105001_e19, Q_BK125, Q_GW125, Q_GE125, Q_NB0_125, Q_NB125_0, Q_NB101_125, Q_NB125_101, Q_NB104_125, Q_NB125_104, Q_BK125_e20, Q_X19_⟩ hb_ hon hoff
      refine ⟨_, rfl, fun K hK => ?_⟩
      have e25 : a.tmps[25]? = some (.pointer (some ⟨g, 0, none⟩)) := by rw [ha]; exact (putSel_off rfl).trans rfl
      replace ha := Aside0.mk ha
      have BK101 := Aside0.mk Q_BK101
      have BK104 := Aside0.mk Q_BK104
      have HK := Aside0.mk Q_HK
      have HB := Aside0.mk Q_HB
      have HI0 := Aside0.mk (Q_HI0_e7 (hon 7 (by kernel_rfl)) hb_)
      refine goes_ Try.func137 (by kernel_rfl) rfl #[.pointer (some ⟨g, 0, none⟩), .int .i64 100] (by rfl) rfl rfl (by first | (simp only [List.map_toArray, List.map_cons, List.map_nil, Act.eval, Array.getD_eq_getD_getElem?, Option.getD_some, e25]; done) | (simp only [List.map_toArray, List.map_cons, List.map_nil, Act.eval, Array.getD_eq_getD_getElem?, Option.getD_some, e25]; rfl)) ?_
      with_reducible refine (spec_l30Rd_pick.calls k1 g s0_0 t110 100 t111 t112 w0 _ ?side1 ?side2 A14.out).mono ?_
      (case side1 => exact uI2 HI0 NB0_101.out NB0_104.out)
      (case side2 => exact uB3 HB (IsS115.ge HI0.out) GE101.out GE104.out)
      rintro e w56 ⟨rfl, hi, hb, hk⟩
      refine ⟨_, rfl, ?_⟩
      have n1_ := Aside0.mk (KeepBut.blk hk (g' := gb101) (o := .cells #[.int .i64 0, .slice none 0 0] 25 (0, 0)) (ub BK101) NB101_0.out (by simp))
      have n2_ := Aside0.mk (KeepBut.blk hk (g' := gb104) (o := .cells #[.int .i64 (wrap64 (2 + t102)), u105001] 25 (0, 0)) (ub BK104) NB104_0.out (by simp))
      have n3_ := Aside0.mk (KeepBut.trans (uK2 HK GW101.out GW104.out) hk (.inl rfl))
      have n4_ := Aside0.mk (hb)
      have n5_ := Aside0.mk (hi)
      have z_HO_105001 := fun (h0_ : b 19 = false) => (show Kd.R k33 33 w56 w.heap.size (fun _ => True) u105001 x105001_1 from by first | exact (Kd.R_mono (Kd.R_keep (IsS115.apart (show IsS115 w0 _ g s0_0 t110 from uI2 HI0 NB0_101.out NB0_104.out) (by (with_reducible repeat (first | apply Kd.R_alloc | apply Kd.R_drewN | apply Kd.R_drew)); exact (Q_HO_105001 h0_)) (by decide)) hk (fun _ h => h.2)) (fun _ h => h.1)) | exact Kd.R_mono (Kd.R_mono (Kd.R_keep (IsS115.apart (show IsS115 w0 _ g s0_0 t110 from uI2 HI0 NB0_101.out NB0_104.out) (by (with_reducible repeat (first | apply Kd.R_alloc | apply Kd.R_drewN | apply Kd.R_drew)); exact (Q_HO_105001 h0_)) (by decide)) hk (fun _ h => h.2)) (fun _ h => h.1)) (fun _ h_ => by first | trivial | exact h_ | exact h_.1))
      have z_HO120 := fun (h0_ : b 14 = true) => (show Kd.R (Kd.int .i64) 3 w56 w.heap.size (fun _ => True) v119 y118 from by first | exact (Kd.R_mono (Kd.R_keep (IsS115.apart (show IsS115 w0 _ g s0_0 t110 from uI2 HI0 NB0_101.out NB0_104.out) (by (with_reducible repeat (first | apply Kd.R_alloc | apply Kd.R_drewN | apply Kd.R_drew)); exact (Q_HO120 h0_)) (by decide)) hk (fun _ h => h.2)) (fun _ h => h.1)) | exact Kd.R_mono (Kd.R_mono (Kd.R_keep (IsS115.apart (show IsS115 w0 _ g s0_0 t110 from uI2 HI0 NB0_101.out NB0_104.out) (by (with_reducible repeat (first | apply Kd.R_alloc | apply Kd.R_drewN | apply Kd.R_drew)); exact (Q_HO120 h0_)) (by decide)) hk (fun _ h => h.2)) (fun _ h => h.1)) (fun _ h_ => by first | trivial | exact h_ | exact h_.1))
      have z_HO_105001_e19 := fun (h0_ : b 19 = true) => (show Kd.R k33 33 w56 w.heap.size (fun k_ => k_ ≠ gb125) u105001 x105001_1 from by first | exact (Kd.R_mono (Kd.R_keep (IsS115.apart (show IsS115 w0 _ g s0_0 t110 from uI3 HI0 NB0_101.out NB0_104.out (Q_NB0_125 h0_)) (by (with_reducible repeat (first | apply Kd.R_alloc | apply Kd.R_drewN | apply Kd.R_drew)); exact (Q_HO_105001_e19 h0_)) (by decide)) hk (fun _ h => h.2)) (fun _ h => h.1)) | exact Kd.R_mono (Kd.R_mono (Kd.R_keep (IsS115.apart (show IsS115 w0 _ g s0_0 t110 from uI3 HI0 NB0_101.out NB0_104.out (Q_NB0_125 h0_)) (by (with_reducible repeat (first | apply Kd.R_alloc | apply Kd.R_drewN | apply Kd.R_drew)); exact (Q_HO_105001_e19 h0_)) (by decide)) hk (fun _ h => h.2)) (fun _ h => h.1)) (fun _ h_ => by first | trivial | exact h_ | exact h_.1))
      have z_BK125 := fun (h0_ : b 19 = true) (h1_ : b 20 = false) => (show w56.heap[gb125]? = some (.cells #[.int .i64 0, .int .i64 0, .int .i64 0, .int .i64 0, .int .i64 0] 33 (0, 0)) from by first | exact (KeepBut.blk hk (g' := gb125) (o := .cells #[.int .i64 0, .int .i64 0, .int .i64 0, .int .i64 0, .int .i64 0] 33 (0, 0)) (by (with_reducible repeat (first | refine blk_drewN ?_ _ | refine blk_drew ?_ | refine blk_alloc ?_ _)); exact (Q_BK125 h0_ h1_)) (Q_NB125_0 h0_) (by simp)))
      clear BK101
      clear BK104
      clear HK
      clear HB
      clear HI0
      have BK101 := n1_
      have BK104 := n2_
      have HK := n3_
      have HB := n4_
      have HI0 := n5_
      clear n1_ n2_ n3_ n4_ n5_
      (try clear hb)
      (try clear hb2)
      (try clear hk)
      (try clear hi)
      refine hK.out _ _ ⟨v114, v119, gb125, m19_, (by rw [ha.out]; exact putSel_upk 4 hb_ rfl rfl rfl), z_HO_105001, (ub BK101), (ub BK104), fun h0_ => absurd ((hon 3 (by kernel_rfl)).symm.trans h0_) (by decide), (uK2 HK GW101.out GW104.out), (uB3 HB (IsS115.ge HI0.out) GE101.out GE104.out), fun _ h1_ => absurd ((hon 7 (by kernel_rfl)).symm.trans h1_) (by decide), fun _ h1_ => absurd ((up_self b 10).symm.trans h1_) (by decide), fun _ _ => (uI2 HI0 NB0_101.out NB0_104.out), fun h0_ => absurd ((hoff 11 (by kernel_rfl)).symm.trans h0_) (by decide), fun h0_ _ => absurd ((hoff 12 (by kernel_rfl)).symm.trans h0_) (by decide), z_HO120, fun h0_ _ => absurd ((hoff 15 (by kernel_rfl)).symm.trans h0_) (by decide), fun h0_ => absurd ((hoff 17 (by kernel_rfl)).symm.trans h0_) (by decide), z_HO_105001_e19, z_BK125, Q_GW125, Q_GE125, Q_NB0_125, Q_NB125_0, Q_NB101_125, Q_NB125_101, Q_NB104_125, Q_NB125_104, fun h0_ => absurd ((hoff 20 (by kernel_rfl)).symm.trans h0_) (by decide), Q_X19_⟩
     refine steps_cons ?_ ?_
     ·
      rintro b a w' ⟨v114, v119, gb125, m19_, ha, Q_HO_105001, Q_BK101, Q_BK104, Q_HI0, Q_HK, Q_HB, Q_HI0_e3, Q_HI0_e7, Q_HI0_e10, Q_HO115, Q_HI0_e12, Q_HO120, Q_HI0_e15, Q_HI0_e17, Q_HO_105001_e19, Q_BK125, Q_GW125, Q_GE125, Q_NB0_125, Q_NB125_0, Q_NB101_125, Q_NB125_101, Q_NB104_125, Q_NB125_104, Q_BK125_e20, Q_X19_⟩ hb_ hon hoff
      refine ⟨_, rfl, fun K hK => ?_⟩
      have e26 : a.tmps[26]? = some (.int .i64 t111) := by rw [ha]; exact putSel_on (e := (10, 26, .int .i64 t111)) 4 rfl rfl (hon 10 (by kernel_rfl)) rfl
      replace ha := Aside0.mk ha
      have BK101 := Aside0.mk Q_BK101
      have BK104 := Aside0.mk Q_BK104
      have HK := Aside0.mk Q_HK
      have HB := Aside0.mk Q_HB
      have HI0 := Aside0.mk (Q_HI0_e10 (hon 10 (by kernel_rfl)) (hoff 12 (by kernel_rfl)))
      refine Kd.R_lit_step (Kd.int .i64) _ 3 ?hg (N := 27) ?hd (xs := ([0, 1, 2, 5, 9, t111] : List Int)) (inner := [.int .i64 0, .int .i64 1, .int .i64 2, .int .i64 5, .int .i64 9, .int .i64 t111]) (ok := fun _ => True) (okp := fun _ => True) ?hr ?hp (fun _ hk => hk) trivial (Below.refl _ _) (Nat.le_refl _) (by simp) ?_; (case hd => rfl); (case hg => rfl); (case hr => first | (go_simp; done) | (go_simp; rfl)); (case hp => exact (Reps.one (show Kd.M (Kd.int .i64) _ _ _ 0 [.int .i64 0] from rfl) (Reps.one (show Kd.M (Kd.int .i64) _ _ _ 1 [.int .i64 1] from rfl) (Reps.one (show Kd.M (Kd.int .i64) _ _ _ 2 [.int .i64 2] from rfl) (Reps.one (show Kd.M (Kd.int .i64) _ _ _ 5 [.int .i64 5] from rfl) (Reps.one (show Kd.M (Kd.int .i64) _ _ _ 9 [.int .i64 9] from rfl) (Reps.one (show Kd.M (Kd.int .i64) _ _ _ t111 [.int .i64 t111] from rfl) (Reps.none _ _))))))))
      intro v114 w57 ho58 hb hg_ hnew_
      clear hg_ hnew_
      (first | rw [← Ny113.out] at ho58 | (simp only [Int.reduceToNat] at ho58; rw [← Ny113.out] at ho58))
      have n1_ := Aside0.mk (Kd.R_lower ho58 (keep_size (w := w) (g := g) (row := none) (uK2 HK GW101.out GW104.out)))
      have n2_ := Aside0.mk (blk_below (g := gb101) (o := .cells #[.int .i64 0, .slice none 0 0] 25 (0, 0)) (ub BK101) hb)
      have n3_ := Aside0.mk (blk_below (g := gb104) (o := .cells #[.int .i64 (wrap64 (2 + t102)), u105001] 25 (0, 0)) (ub BK104) hb)
      have n4_ := Aside0.mk (IsS115.below (uI2 HI0 NB0_101.out NB0_104.out) hb)
      have n5_ := Aside0.mk (KeepBut.trans (uK2 HK GW101.out GW104.out) (KeepBut.of_below hb g none) (.inl rfl))
      have n6_ := Aside0.mk (below_step (uB3 HB (IsS115.ge HI0.out) GE101.out GE104.out) hb)
      have z_HO_105001 := fun (h0_ : b 19 = false) => (show Kd.R k33 33 w57 w.heap.size (fun _ => True) u105001 x105001_1 from by first | exact (Kd.R_below (by (with_reducible repeat (first | apply Kd.R_alloc | apply Kd.R_drewN | apply Kd.R_drew)); exact (Q_HO_105001 h0_)) hb) | exact Kd.R_mono (Kd.R_below (by (with_reducible repeat (first | apply Kd.R_alloc | apply Kd.R_drewN | apply Kd.R_drew)); exact (Q_HO_105001 h0_)) hb) (fun _ h_ => by first | trivial | exact h_ | exact h_.1))
      have z_HO120 := fun (h0_ : b 14 = true) => (show Kd.R (Kd.int .i64) 3 w57 w.heap.size (fun _ => True) v119 y118 from by first | exact (Kd.R_elder' (by (with_reducible repeat (first | apply Kd.R_alloc | apply Kd.R_drewN | apply Kd.R_drew)); exact (Q_HO120 h0_)) (Kd.R_base ho58) hb) | exact Kd.R_mono (Kd.R_elder' (by (with_reducible repeat (first | apply Kd.R_alloc | apply Kd.R_drewN | apply Kd.R_drew)); exact (Q_HO120 h0_)) (Kd.R_base ho58) hb) (fun _ h_ => by first | trivial | exact h_ | exact h_.1))
      have z_HO_105001_e19 := fun (h0_ : b 19 = true) => (show Kd.R k33 33 w57 w.heap.size (fun k_ => k_ ≠ gb125) u105001 x105001_1 from by first | exact (Kd.R_below (by (with_reducible repeat (first | apply Kd.R_alloc | apply Kd.R_drewN | apply Kd.R_drew)); exact (Q_HO_105001_e19 h0_)) hb) | exact Kd.R_mono (Kd.R_below (by (with_reducible repeat (first | apply Kd.R_alloc | apply Kd.R_drewN | apply Kd.R_drew)); exact (Q_HO_105001_e19 h0_)) hb) (fun _ h_ => by first | trivial | exact h_ | exact h_.1))
      have z_BK125 := fun (h0_ : b 19 = true) (h1_ : b 20 = false) => (show w57.heap[gb125]? = some (.cells #[.int .i64 0, .int .i64 0, .int .i64 0, .int .i64 0, .int .i64 0] 33 (0, 0)) from by first | exact (blk_below (g := gb125) (o := .cells #[.int .i64 0, .int .i64 0, .int .i64 0, .int .i64 0, .int .i64 0] 33 (0, 0)) (by (with_reducible repeat (first | refine blk_drewN ?_ _ | refine blk_drew ?_ | refine blk_alloc ?_ _)); exact (Q_BK125 h0_ h1_)) hb))
      clear BK101
      clear BK104
      clear HI0
      clear HK
      clear HB
      have HO115 := n1_
      have BK101 := n2_
      have BK104 := n3_
      have HI0 := n4_
      have HK := n5_
      have HB := n6_
      clear n1_ n2_ n3_ n4_ n5_ n6_
      clear hb ho58
      refine hK.out _ _ ⟨v114, v119, gb125, m19_, (by rw [ha.out]; exact putSel_upk 5 hb_ rfl rfl rfl), z_HO_105001, (ub BK101), (ub BK104), fun h0_ => absurd ((hon 3 (by kernel_rfl)).symm.trans h0_) (by decide), (uK2 HK GW101.out GW104.out), (uB3 HB (IsS115.ge HI0.out) GE101.out GE104.out), fun _ h1_ => absurd ((hon 7 (by kernel_rfl)).symm.trans h1_) (by decide), fun _ h1_ => absurd ((hon 10 (by kernel_rfl)).symm.trans h1_) (by decide), fun _ _ => (uI2 HI0 NB0_101.out NB0_104.out), fun _ => (ur HO115), fun h0_ _ => absurd ((hoff 12 (by kernel_rfl)).symm.trans h0_) (by decide), z_HO120, fun h0_ _ => absurd ((hoff 15 (by kernel_rfl)).symm.trans h0_) (by decide), fun h0_ => absurd ((hoff 17 (by kernel_rfl)).symm.trans h0_) (by decide), z_HO_105001_e19, z_BK125, Q_GW125, Q_GE125, Q_NB0_125, Q_NB125_0, Q_NB101_125, Q_NB125_101, Q_NB104_125, Q_NB125_104, fun h0_ => absurd ((hoff 20 (by kernel_rfl)).symm.trans h0_) (by decide), Q_X19_⟩
     refine steps_cons ?_ ?_
     ·
      rintro b a w' ⟨v114, v119, gb125, m19_, ha, Q_HO_105001, Q_BK101, Q_BK104, Q_HI0, Q_HK, Q_HB, Q_HI0_e3, Q_HI0_e7, Q_HI0_e10, Q_HO115, Q_HI0_e12, Q_HO120, Q_HI0_e15, Q_HI0_e17, Q_HO_105001_e19, Q_BK125, Q_GW125, Q_GE125, Q_NB0_125, Q_NB125_0, Q_NB101_125, Q_NB125_101, Q_NB104_125, Q_NB125_104, Q_BK125_e20, Q_X19_⟩ hb_ hon hoff
      refine ⟨_, rfl, fun K hK => ?_⟩
      have e24 : a.tmps[24]? = some (.pointer (some ⟨g, 0, none⟩)) := by rw [ha]; exact (putSel_off rfl).trans rfl
      have e27 : a.tmps[27]? = some (v114) := by rw [ha]; exact putSel_on (e := (11, 27, v114)) 5 rfl rfl (hon 11 (by kernel_rfl)) rfl
      replace ha := Aside0.mk ha
      have BK101 := Aside0.mk Q_BK101
      have BK104 := Aside0.mk Q_BK104
      have HK := Aside0.mk Q_HK
      have HB := Aside0.mk Q_HB
      have HI0 := Aside0.mk (Q_HI0_e10 (hon 10 (by kernel_rfl)) hb_)
      have HO115 := Aside0.mk (Q_HO115 (hon 11 (by kernel_rfl)))
      obtain ⟨Ao59, co59, eo59⟩ := Kd.R_slice HO115.out
      (first | subst eo59 | (injection eo59 with f1_ f2_ f3_; have f4_ := f1_.symm; have f5_ := f3_.symm; clear f1_ f2_ f3_; subst f4_; subst f5_))
      refine goes_ Try.func99 (by kernel_rfl) rfl #[.pointer (some ⟨g, 0, none⟩), .slice Ao59 y113.length co59] (by rfl) rfl rfl (by first | (simp only [List.map_toArray, List.map_cons, List.map_nil, Act.eval, Array.getD_eq_getD_getElem?, Option.getD_some, e24, e27]; done) | (simp only [List.map_toArray, List.map_cons, List.map_nil, Act.eval, Array.getD_eq_getD_getElem?, Option.getD_some, e24, e27]; rfl)) ?_
      with_reducible refine (spec_l30Rd_one.calls k1 g s0_0 t112 _ _ y113 t116 t117 w0 _ ?side1 ?side2 ?side3 ?side4 ?side5 A15.out).mono ?_
      (case side1 => exact uI2 HI0 NB0_101.out NB0_104.out)
      (case side2 => exact uB3 HB (IsS115.ge HI0.out) GE101.out GE104.out)
      (case side3 => repeat (first | exact (Kd.R_reads' HO115.out).2.2 | (with_reducible refine Kd.C_alloc ?_ _) | (with_reducible refine Kd.C_drewN ?_ _) | (with_reducible refine Kd.C_drew ?_)))
      (case side4 => exact (Kd.R_reads' HO115.out).2.1)
      (case side5 => exact far_slice (IsS115.own_ne HI0.out HO115.out (by decide)))
      rintro e w60 ⟨rfl, hi, hb, hk⟩
      refine ⟨_, rfl, ?_⟩
      have n1_ := Aside0.mk (KeepBut.blk hk (g' := gb101) (o := .cells #[.int .i64 0, .slice none 0 0] 25 (0, 0)) (ub BK101) NB101_0.out (by simp))
      have n2_ := Aside0.mk (KeepBut.blk hk (g' := gb104) (o := .cells #[.int .i64 (wrap64 (2 + t102)), u105001] 25 (0, 0)) (ub BK104) NB104_0.out (by simp))
      have n3_ := Aside0.mk (Kd.R_mono (Kd.R_keep (IsS115.apart (show IsS115 w0 _ g s0_0 t112 from uI2 HI0 NB0_101.out NB0_104.out) (ur HO115) (by decide)) hk (fun _ h => h.2)) (fun _ h => h.1))
      have n4_ := Aside0.mk (KeepBut.trans (uK2 HK GW101.out GW104.out) hk (.inl rfl))
      have n5_ := Aside0.mk (hb)
      have n6_ := Aside0.mk (hi)
      have z_HO_105001 := fun (h0_ : b 19 = false) => (show Kd.R k33 33 w60 w.heap.size (fun _ => True) u105001 x105001_1 from by first | exact (Kd.R_mono (Kd.R_keep (IsS115.apart (show IsS115 w0 _ g s0_0 t112 from uI2 HI0 NB0_101.out NB0_104.out) (by (with_reducible repeat (first | apply Kd.R_alloc | apply Kd.R_drewN | apply Kd.R_drew)); exact (Q_HO_105001 h0_)) (by decide)) hk (fun _ h => h.2)) (fun _ h => h.1)) | exact Kd.R_mono (Kd.R_mono (Kd.R_keep (IsS115.apart (show IsS115 w0 _ g s0_0 t112 from uI2 HI0 NB0_101.out NB0_104.out) (by (with_reducible repeat (first | apply Kd.R_alloc | apply Kd.R_drewN | apply Kd.R_drew)); exact (Q_HO_105001 h0_)) (by decide)) hk (fun _ h => h.2)) (fun _ h => h.1)) (fun _ h_ => by first | trivial | exact h_ | exact h_.1))
      have z_HO120 := fun (h0_ : b 14 = true) => (show Kd.R (Kd.int .i64) 3 w60 w.heap.size (fun _ => True) v119 y118 from by first | exact (Kd.R_mono (Kd.R_keep (IsS115.apart (show IsS115 w0 _ g s0_0 t112 from uI2 HI0 NB0_101.out NB0_104.out) (by (with_reducible repeat (first | apply Kd.R_alloc | apply Kd.R_drewN | apply Kd.R_drew)); exact (Q_HO120 h0_)) (by decide)) hk (fun _ h => h.2)) (fun _ h => h.1)) | exact Kd.R_mono (Kd.R_mono (Kd.R_keep (IsS115.apart (show IsS115 w0 _ g s0_0 t112 from uI2 HI0 NB0_101.out NB0_104.out) (by (with_reducible repeat (first | apply Kd.R_alloc | apply Kd.R_drewN | apply Kd.R_drew)); exact (Q_HO120 h0_)) (by decide)) hk (fun _ h => h.2)) (fun _ h => h.1)) (fun _ h_ => by first | trivial | exact h_ | exact h_.1))
      have z_HO_105001_e19 := fun (h0_ : b 19 = true) => (show Kd.R k33 33 w60 w.heap.size (fun k_ => k_ ≠ gb125) u105001 x105001_1 from by first | exact (Kd.R_mono (Kd.R_keep (IsS115.apart (show IsS115 w0 _ g s0_0 t112 from uI3 HI0 NB0_101.out NB0_104.out (Q_NB0_125 h0_)) (by (with_reducible repeat (first | apply Kd.R_alloc | apply Kd.R_drewN | apply Kd.R_drew)); exact (Q_HO_105001_e19 h0_)) (by decide)) hk (fun _ h => h.2)) (fun _ h => h.1)) | exact Kd.R_mono (Kd.R_mono (Kd.R_keep (IsS115.apart (show IsS115 w0 _ g s0_0 t112 from uI3 HI0 NB0_101.out NB0_104.out (Q_NB0_125 h0_)) (by (with_reducible repeat (first | apply Kd.R_alloc | apply Kd.R_drewN | apply Kd.R_drew)); exact (Q_HO_105001_e19 h0_)) (by decide)) hk (fun _ h => h.2)) (fun _ h => h.1)) (fun _ h_ => by first | trivial | exact h_ | exact h_.1))
      have z_BK125 := fun (h0_ : b 19 = true) (h1_ : b 20 = false) => (show w60.heap[gb125]? = some (.cells #[.int .i64 0, .int .i64 0, .int .i64 0, .int .i64 0, .int .i64 0] 33 (0, 0)) from by first | exact (KeepBut.blk hk (g' := gb125) (o := .cells #[.int .i64 0, .int .i64 0, .int .i64 0, .int .i64 0, .int .i64 0] 33 (0, 0)) (by (with_reducible repeat (first | refine blk_drewN ?_ _ | refine blk_drew ?_ | refine blk_alloc ?_ _)); exact (Q_BK125 h0_ h1_)) (Q_NB125_0 h0_) (by simp)))
      clear BK101
      clear BK104
      clear HO115
      clear HK
      clear HB
      clear HI0
      have BK101 := n1_
      have BK104 := n2_
      have HO115 := n3_
      have HK := n4_
      have HB := n5_
      have HI0 := n6_
      clear n1_ n2_ n3_ n4_ n5_ n6_
      (try clear hb)
      (try clear hb2)
      (try clear hk)
      (try clear hi)
      refine hK.out _ _ ⟨.slice Ao59 y113.length co59, v119, gb125, m19_, (by rw [ha.out]; exact putSel_upk 6 hb_ rfl rfl rfl), z_HO_105001, (ub BK101), (ub BK104), fun h0_ => absurd ((hon 3 (by kernel_rfl)).symm.trans h0_) (by decide), (uK2 HK GW101.out GW104.out), (uB3 HB (IsS115.ge HI0.out) GE101.out GE104.out), fun _ h1_ => absurd ((hon 7 (by kernel_rfl)).symm.trans h1_) (by decide), fun _ h1_ => absurd ((hon 10 (by kernel_rfl)).symm.trans h1_) (by decide), fun _ h1_ => absurd ((up_self b 12).symm.trans h1_) (by decide), fun _ => (ur HO115), fun _ _ => (uI2 HI0 NB0_101.out NB0_104.out), z_HO120, fun h0_ _ => absurd ((hoff 15 (by kernel_rfl)).symm.trans h0_) (by decide), fun h0_ => absurd ((hoff 17 (by kernel_rfl)).symm.trans h0_) (by decide), z_HO_105001_e19, z_BK125, Q_GW125, Q_GE125, Q_NB0_125, Q_NB125_0, Q_NB101_125, Q_NB125_101, Q_NB104_125, Q_NB125_104, fun h0_ => absurd ((hoff 20 (by kernel_rfl)).symm.trans h0_) (by decide), Q_X19_⟩
     refine steps_cons ?_ ?_
     ·
      rintro b a w' ⟨v114, v119, gb125, m19_, ha, Q_HO_105001, Q_BK101, Q_BK104, Q_HI0, Q_HK, Q_HB, Q_HI0_e3, Q_HI0_e7, Q_HI0_e10, Q_HO115, Q_HI0_e12, Q_HO120, Q_HI0_e15, Q_HI0_e17, Q_HO_105001_e19, Q_BK125, Q_GW125, Q_GE125, Q_NB0_125, Q_NB125_0, Q_NB101_125, Q_NB125_101, Q_NB104_125, Q_NB125_104, Q_BK125_e20, Q_X19_⟩ hb_ hon hoff
      refine ⟨_, rfl, fun K hK => ?_⟩
      replace ha := Aside0.mk ha
      have BK101 := Aside0.mk Q_BK101
      have BK104 := Aside0.mk Q_BK104
      have HK := Aside0.mk Q_HK
      have HB := Aside0.mk Q_HB
      refine Kd.R_lit_step (Kd.int .i64) _ 3 ?hg (N := 30) ?hd (xs := ([0, 0, 3, 8] : List Int)) (inner := [.int .i64 0, .int .i64 0, .int .i64 3, .int .i64 8]) (ok := fun _ => True) (okp := fun _ => True) ?hr ?hp (fun _ hk => hk) trivial (Below.refl _ _) (Nat.le_refl _) (by simp) ?_; (case hd => rfl); (case hg => rfl); (case hr => first | (go_simp; done) | (go_simp; rfl)); (case hp => exact (Reps.one (show Kd.M (Kd.int .i64) _ _ _ 0 [.int .i64 0] from rfl) (Reps.one (show Kd.M (Kd.int .i64) _ _ _ 0 [.int .i64 0] from rfl) (Reps.one (show Kd.M (Kd.int .i64) _ _ _ 3 [.int .i64 3] from rfl) (Reps.one (show Kd.M (Kd.int .i64) _ _ _ 8 [.int .i64 8] from rfl) (Reps.none _ _))))))
      intro v119 w53 ho54 hb hg_ hnew_
      clear hg_ hnew_
      (first | rw [← Ny118.out] at ho54 | (simp only [Int.reduceToNat] at ho54; rw [← Ny118.out] at ho54))
      have n1_ := Aside0.mk (Kd.R_lower ho54 (keep_size (w := w) (g := g) (row := none) (uK2 HK GW101.out GW104.out)))
      have n2_ := Aside0.mk (blk_below (g := gb101) (o := .cells #[.int .i64 0, .slice none 0 0] 25 (0, 0)) (ub BK101) hb)
      have n3_ := Aside0.mk (blk_below (g := gb104) (o := .cells #[.int .i64 (wrap64 (2 + t102)), u105001] 25 (0, 0)) (ub BK104) hb)
      have n5_ := Aside0.mk (KeepBut.trans (uK2 HK GW101.out GW104.out) (KeepBut.of_below hb g none) (.inl rfl))
      have n6_ := Aside0.mk (below_step (uB2 HB GE101.out GE104.out) hb)
      have z_HO_105001 := fun (h0_ : b 19 = false) => (show Kd.R k33 33 w53 w.heap.size (fun _ => True) u105001 x105001_1 from by first | exact (Kd.R_below (by (with_reducible repeat (first | apply Kd.R_alloc | apply Kd.R_drewN | apply Kd.R_drew)); exact (Q_HO_105001 h0_)) hb) | exact Kd.R_mono (Kd.R_below (by (with_reducible repeat (first | apply Kd.R_alloc | apply Kd.R_drewN | apply Kd.R_drew)); exact (Q_HO_105001 h0_)) hb) (fun _ h_ => by first | trivial | exact h_ | exact h_.1))
      have z_HI0 := fun (h0_ : b 3 = false) => (show IsS115 w0 w53 g s0_0 x1001_1 from by first | exact (IsS115.below (by repeat (first | (with_reducible first | exact (Q_HI0 h0_) | apply IsS115.alloc | apply IsS115.drewN | apply IsS115.drew | apply IsS115.set_1 | refine IsS115.far ?_ NB0_101.out _ | refine IsS115.far ?_ NB0_104.out _) | exact (Q_HI0 h0_))) hb))
      have z_HI0_e3 := fun (h0_ : b 3 = true) (h1_ : b 7 = false) => (show IsS115 w0 w53 g s0_0 t108 from by first | exact (IsS115.below (by repeat (first | (with_reducible first | exact (Q_HI0_e3 h0_ h1_) | apply IsS115.alloc | apply IsS115.drewN | apply IsS115.drew | apply IsS115.set_1 | refine IsS115.far ?_ NB0_101.out _ | refine IsS115.far ?_ NB0_104.out _) | exact (Q_HI0_e3 h0_ h1_))) hb))
      have z_HI0_e7 := fun (h0_ : b 7 = true) (h1_ : b 10 = false) => (show IsS115 w0 w53 g s0_0 t110 from by first | exact (IsS115.below (by repeat (first | (with_reducible first | exact (Q_HI0_e7 h0_ h1_) | apply IsS115.alloc | apply IsS115.drewN | apply IsS115.drew | apply IsS115.set_1 | refine IsS115.far ?_ NB0_101.out _ | refine IsS115.far ?_ NB0_104.out _) | exact (Q_HI0_e7 h0_ h1_))) hb))
      have z_HI0_e10 := fun (h0_ : b 10 = true) (h1_ : b 12 = false) => (show IsS115 w0 w53 g s0_0 t112 from by first | exact (IsS115.below (by repeat (first | (with_reducible first | exact (Q_HI0_e10 h0_ h1_) | apply IsS115.alloc | apply IsS115.drewN | apply IsS115.drew | apply IsS115.set_1 | refine IsS115.far ?_ NB0_101.out _ | refine IsS115.far ?_ NB0_104.out _) | exact (Q_HI0_e10 h0_ h1_))) hb))
      have z_HO115 := fun (h0_ : b 11 = true) => (show Kd.R (Kd.int .i64) 3 w53 w.heap.size (fun _ => True) v114 y113 from by first | exact (Kd.R_elder' (by (with_reducible repeat (first | apply Kd.R_alloc | apply Kd.R_drewN | apply Kd.R_drew)); exact (Q_HO115 h0_)) (Kd.R_base ho54) hb) | exact Kd.R_mono (Kd.R_elder' (by (with_reducible repeat (first | apply Kd.R_alloc | apply Kd.R_drewN | apply Kd.R_drew)); exact (Q_HO115 h0_)) (Kd.R_base ho54) hb) (fun _ h_ => by first | trivial | exact h_ | exact h_.1))
      have z_HI0_e12 := fun (h0_ : b 12 = true) (h1_ : b 15 = false) => (show IsS115 w0 w53 g s0_0 t117 from by first | exact (IsS115.below (by repeat (first | (with_reducible first | exact (Q_HI0_e12 h0_ h1_) | apply IsS115.alloc | apply IsS115.drewN | apply IsS115.drew | apply IsS115.set_1 | refine IsS115.far ?_ NB0_101.out _ | refine IsS115.far ?_ NB0_104.out _) | exact (Q_HI0_e12 h0_ h1_))) hb))
      have z_HO_105001_e19 := fun (h0_ : b 19 = true) => (show Kd.R k33 33 w53 w.heap.size (fun k_ => k_ ≠ gb125) u105001 x105001_1 from by first | exact (Kd.R_below (by (with_reducible repeat (first | apply Kd.R_alloc | apply Kd.R_drewN | apply Kd.R_drew)); exact (Q_HO_105001_e19 h0_)) hb) | exact Kd.R_mono (Kd.R_below (by (with_reducible repeat (first | apply Kd.R_alloc | apply Kd.R_drewN | apply Kd.R_drew)); exact (Q_HO_105001_e19 h0_)) hb) (fun _ h_ => by first | trivial | exact h_ | exact h_.1))
      have z_BK125 := fun (h0_ : b 19 = true) (h1_ : b 20 = false) => (show w53.heap[gb125]? = some (.cells #[.int .i64 0, .int .i64 0, .int .i64 0, .int .i64 0, .int .i64 0] 33 (0, 0)) from by first | exact (blk_below (g := gb125) (o := .cells #[.int .i64 0, .int .i64 0, .int .i64 0, .int .i64 0, .int .i64 0] 33 (0, 0)) (by (with_reducible repeat (first | refine blk_drewN ?_ _ | refine blk_drew ?_ | refine blk_alloc ?_ _)); exact (Q_BK125 h0_ h1_)) hb))
      clear BK101
      clear BK104
      clear HK
      clear HB
      have HO120 := n1_
      have BK101 := n2_
      have BK104 := n3_
      have HK := n5_
      have HB := n6_
      clear n1_ n2_ n3_ n5_ n6_
      clear hb ho54
      refine hK.out _ _ ⟨v114, v119, gb125, m19_, (by rw [ha.out]; exact putSel_upk 7 hb_ rfl rfl rfl), z_HO_105001, (ub BK101), (ub BK104), z_HI0, (uK2 HK GW101.out GW104.out), (uB2 HB GE101.out GE104.out), z_HI0_e3, z_HI0_e7, z_HI0_e10, z_HO115, z_HI0_e12, fun _ => (ur HO120), fun h0_ _ => absurd ((hoff 15 (by kernel_rfl)).symm.trans h0_) (by decide), fun h0_ => absurd ((hoff 17 (by kernel_rfl)).symm.trans h0_) (by decide), z_HO_105001_e19, z_BK125, Q_GW125, Q_GE125, Q_NB0_125, Q_NB125_0, Q_NB101_125, Q_NB125_101, Q_NB104_125, Q_NB125_104, fun h0_ => absurd ((hoff 20 (by kernel_rfl)).symm.trans h0_) (by decide), Q_X19_⟩
     refine steps_cons ?_ ?_
     ·
      rintro b a w' ⟨v114, v119, gb125, m19_, ha, Q_HO_105001, Q_BK101, Q_BK104, Q_HI0, Q_HK, Q_HB, Q_HI0_e3, Q_HI0_e7, Q_HI0_e10, Q_HO115, Q_HI0_e12, Q_HO120, Q_HI0_e15, Q_HI0_e17, Q_HO_105001_e19, Q_BK125, Q_GW125, Q_GE125, Q_NB0_125, Q_NB125_0, Q_NB101_125, Q_NB125_101, Q_NB104_125, Q_NB125_104, Q_BK125_e20, Q_X19_⟩ hb_ hon hoff
      refine ⟨_, rfl, fun K hK => ?_⟩
      have e29 : a.tmps[29]? = some (.pointer (some ⟨g, 0, none⟩)) := by rw [ha]; exact (putSel_off rfl).trans rfl
      have e30 : a.tmps[30]? = some (v119) := by rw [ha]; exact putSel_on (e := (14, 30, v119)) 7 rfl rfl (hon 14 (by kernel_rfl)) rfl
      replace ha := Aside0.mk ha
      have BK101 := Aside0.mk Q_BK101
      have BK104 := Aside0.mk Q_BK104
      have HK := Aside0.mk Q_HK
      have HB := Aside0.mk Q_HB
      have HO115 := Aside0.mk (Q_HO115 (hon 11 (by kernel_rfl)))
      have HI0 := Aside0.mk (Q_HI0_e12 (hon 12 (by kernel_rfl)) hb_)
      have HO120 := Aside0.mk (Q_HO120 (hon 14 (by kernel_rfl)))
      obtain ⟨Ao63, co63, eo63⟩ := Kd.R_slice HO120.out
      (first | subst eo63 | (injection eo63 with f1_ f2_ f3_; have f4_ := f1_.symm; have f5_ := f3_.symm; clear f1_ f2_ f3_; subst f4_; subst f5_))
      refine goes_ Try.func99 (by kernel_rfl) rfl #[.pointer (some ⟨g, 0, none⟩), .slice Ao63 y118.length co63] (by rfl) rfl rfl (by first | (simp only [List.map_toArray, List.map_cons, List.map_nil, Act.eval, Array.getD_eq_getD_getElem?, Option.getD_some, e29, e30]; done) | (simp only [List.map_toArray, List.map_cons, List.map_nil, Act.eval, Array.getD_eq_getD_getElem?, Option.getD_some, e29, e30]; rfl)) ?_
      with_reducible refine (spec_l30Rd_one.calls k1 g s0_0 t117 _ _ y118 t121 t122 w0 _ ?side1 ?side2 ?side3 ?side4 ?side5 A16.out).mono ?_
      (case side1 => exact uI2 HI0 NB0_101.out NB0_104.out)
      (case side2 => exact uB3 HB (IsS115.ge HI0.out) GE101.out GE104.out)
      (case side3 => repeat (first | exact (Kd.R_reads' HO120.out).2.2 | (with_reducible refine Kd.C_alloc ?_ _) | (with_reducible refine Kd.C_drewN ?_ _) | (with_reducible refine Kd.C_drew ?_)))
      (case side4 => exact (Kd.R_reads' HO120.out).2.1)
      (case side5 => exact far_slice (IsS115.own_ne HI0.out HO120.out (by decide)))
      rintro e w64 ⟨rfl, hi, hb, hk⟩
      refine ⟨_, rfl, ?_⟩
      have n1_ := Aside0.mk (KeepBut.blk hk (g' := gb101) (o := .cells #[.int .i64 0, .slice none 0 0] 25 (0, 0)) (ub BK101) NB101_0.out (by simp))
      have n2_ := Aside0.mk (KeepBut.blk hk (g' := gb104) (o := .cells #[.int .i64 (wrap64 (2 + t102)), u105001] 25 (0, 0)) (ub BK104) NB104_0.out (by simp))
      have n3_ := Aside0.mk (Kd.R_mono (Kd.R_keep (IsS115.apart (show IsS115 w0 _ g s0_0 t117 from uI2 HI0 NB0_101.out NB0_104.out) (ur HO115) (by decide)) hk (fun _ h => h.2)) (fun _ h => h.1))
      have n4_ := Aside0.mk (Kd.R_mono (Kd.R_keep (IsS115.apart (show IsS115 w0 _ g s0_0 t117 from uI2 HI0 NB0_101.out NB0_104.out) (ur HO120) (by decide)) hk (fun _ h => h.2)) (fun _ h => h.1))
      have n5_ := Aside0.mk (KeepBut.trans (uK2 HK GW101.out GW104.out) hk (.inl rfl))
      have n6_ := Aside0.mk (hb)
      have n7_ := Aside0.mk (hi)
      have z_HO_105001 := fun (h0_ : b 19 = false) => (show Kd.R k33 33 w64 w.heap.size (fun _ => True) u105001 x105001_1 from by first | exact (Kd.R_mono (Kd.R_keep (IsS115.apart (show IsS115 w0 _ g s0_0 t117 from uI2 HI0 NB0_101.out NB0_104.out) (by (with_reducible repeat (first | apply Kd.R_alloc | apply Kd.R_drewN | apply Kd.R_drew)); exact (Q_HO_105001 h0_)) (by decide)) hk (fun _ h => h.2)) (fun _ h => h.1)) | exact Kd.R_mono (Kd.R_mono (Kd.R_keep (IsS115.apart (show IsS115 w0 _ g s0_0 t117 from uI2 HI0 NB0_101.out NB0_104.out) (by (with_reducible repeat (first | apply Kd.R_alloc | apply Kd.R_drewN | apply Kd.R_drew)); exact (Q_HO_105001 h0_)) (by decide)) hk (fun _ h => h.2)) (fun _ h => h.1)) (fun _ h_ => by first | trivial | exact h_ | exact h_.1))
      have z_HO_105001_e19 := fun (h0_ : b 19 = true) => (show Kd.R k33 33 w64 w.heap.size (fun k_ => k_ ≠ gb125) u105001 x105001_1 from by first | exact (Kd.R_mono (Kd.R_keep (IsS115.apart (show IsS115 w0 _ g s0_0 t117 from uI3 HI0 NB0_101.out NB0_104.out (Q_NB0_125 h0_)) (by (with_reducible repeat (first | apply Kd.R_alloc | apply Kd.R_drewN | apply Kd.R_drew)); exact (Q_HO_105001_e19 h0_)) (by decide)) hk (fun _ h => h.2)) (fun _ h => h.1)) | exact Kd.R_mono (Kd.R_mono (Kd.R_keep (IsS115.apart (show IsS115 w0 _ g s0_0 t117 from uI3 HI0 NB0_101.out NB0_104.out (Q_NB0_125 h0_)) (by (with_reducible repeat (first | apply Kd.R_alloc | apply Kd.R_drewN | apply Kd.R_drew)); exact (Q_HO_105001_e19 h0_)) (by decide)) hk (fun _ h => h.2)) (fun _ h => h.1)) (fun _ h_ => by first | trivial | exact h_ | exact h_.1))
      have z_BK125 := fun (h0_ : b 19 = true) (h1_ : b 20 = false) => (show w64.heap[gb125]? = some (.cells #[.int .i64 0, .int .i64 0, .int .i64 0, .int .i64 0, .int .i64 0] 33 (0, 0)) from by first | exact (KeepBut.blk hk (g' := gb125) (o := .cells #[.int .i64 0, .int .i64 0, .int .i64 0, .int .i64 0, .int .i64 0] 33 (0, 0)) (by (with_reducible repeat (first | refine blk_drewN ?_ _ | refine blk_drew ?_ | refine blk_alloc ?_ _)); exact (Q_BK125 h0_ h1_)) (Q_NB125_0 h0_) (by simp)))
      clear BK101
      clear BK104
      clear HO115
      clear HO120
      clear HK
      clear HB
      clear HI0
      have BK101 := n1_
      have BK104 := n2_
      have HO115 := n3_
      have HO120 := n4_
      have HK := n5_
      have HB := n6_
      have HI0 := n7_
      clear n1_ n2_ n3_ n4_ n5_ n6_ n7_
      (try clear hb)
      (try clear hb2)
      (try clear hk)
      (try clear hi)
      refine hK.out _ _ ⟨v114, .slice Ao63 y118.length co63, gb125, m19_, (by rw [ha.out]; exact putSel_upk 8 hb_ rfl rfl rfl), z_HO_105001, (ub BK101), (ub BK104), fun h0_ => absurd ((hon 3 (by kernel_rfl)).symm.trans h0_) (by decide), (uK2 HK GW101.out GW104.out), (uB3 HB (IsS115.ge HI0.out) GE101.out GE104.out), fun _ h1_ => absurd ((hon 7 (by kernel_rfl)).symm.trans h1_) (by decide), fun _ h1_ => absurd ((hon 10 (by kernel_rfl)).symm.trans h1_) (by decide), fun _ h1_ => absurd ((hon 12 (by kernel_rfl)).symm.trans h1_) (by decide), fun _ => (ur HO115), fun _ h1_ => absurd ((up_self b 15).symm.trans h1_) (by decide), fun _ => (ur HO120), fun _ _ => (uI2 HI0 NB0_101.out NB0_104.out), fun h0_ => absurd ((hoff 17 (by kernel_rfl)).symm.trans h0_) (by decide), z_HO_105001_e19, z_BK125, Q_GW125, Q_GE125, Q_NB0_125, Q_NB125_0, Q_NB101_125, Q_NB125_101, Q_NB104_125, Q_NB125_104, fun h0_ => absurd ((hoff 20 (by kernel_rfl)).symm.trans h0_) (by decide), Q_X19_⟩
     refine steps_cons ?_ ?_
     ·
      rintro b a w' ⟨v114, v119, gb125, m19_, ha, Q_HO_105001, Q_BK101, Q_BK104, Q_HI0, Q_HK, Q_HB, Q_HI0_e3, Q_HI0_e7, Q_HI0_e10, Q_HO115, Q_HI0_e12, Q_HO120, Q_HI0_e15, Q_HI0_e17, Q_HO_105001_e19, Q_BK125, Q_GW125, Q_GE125, Q_NB0_125, Q_NB125_0, Q_NB101_125, Q_NB125_101, Q_NB104_125, Q_NB125_104, Q_BK125_e20, Q_X19_⟩ hb_ hon hoff
      refine ⟨_, rfl, fun K hK => ?_⟩
      have e32 : a.tmps[32]? = some (.pointer (some ⟨g, 0, none⟩)) := by rw [ha]; exact (putSel_off rfl).trans rfl
      replace ha := Aside0.mk ha
      have BK101 := Aside0.mk Q_BK101
      have BK104 := Aside0.mk Q_BK104
      have HK := Aside0.mk Q_HK
      have HB := Aside0.mk Q_HB
      have HO115 := Aside0.mk (Q_HO115 (hon 11 (by kernel_rfl)))
      have HO120 := Aside0.mk (Q_HO120 (hon 14 (by kernel_rfl)))
      have HI0 := Aside0.mk (Q_HI0_e15 (hon 15 (by kernel_rfl)) hb_)
      refine goes_ Try.func137 (by kernel_rfl) rfl #[.pointer (some ⟨g, 0, none⟩), .int .i64 10] (by rfl) rfl rfl (by first | (simp only [List.map_toArray, List.map_cons, List.map_nil, Act.eval, Array.getD_eq_getD_getElem?, Option.getD_some, e32]; done) | (simp only [List.map_toArray, List.map_cons, List.map_nil, Act.eval, Array.getD_eq_getD_getElem?, Option.getD_some, e32]; rfl)) ?_
      with_reducible refine (spec_l30Rd_pick.calls k1 g s0_0 t122 10 t123 t124 w0 _ ?side1 ?side2 A17.out).mono ?_
      (case side1 => exact uI2 HI0 NB0_101.out NB0_104.out)
      (case side2 => exact uB3 HB (IsS115.ge HI0.out) GE101.out GE104.out)
      rintro e w65 ⟨rfl, hi, hb, hk⟩
      refine ⟨_, rfl, ?_⟩
      have n1_ := Aside0.mk (KeepBut.blk hk (g' := gb101) (o := .cells #[.int .i64 0, .slice none 0 0] 25 (0, 0)) (ub BK101) NB101_0.out (by simp))
      have n2_ := Aside0.mk (KeepBut.blk hk (g' := gb104) (o := .cells #[.int .i64 (wrap64 (2 + t102)), u105001] 25 (0, 0)) (ub BK104) NB104_0.out (by simp))
      have n3_ := Aside0.mk (Kd.R_mono (Kd.R_keep (IsS115.apart (show IsS115 w0 _ g s0_0 t122 from uI2 HI0 NB0_101.out NB0_104.out) (ur HO115) (by decide)) hk (fun _ h => h.2)) (fun _ h => h.1))
      have n4_ := Aside0.mk (Kd.R_mono (Kd.R_keep (IsS115.apart (show IsS115 w0 _ g s0_0 t122 from uI2 HI0 NB0_101.out NB0_104.out) (ur HO120) (by decide)) hk (fun _ h => h.2)) (fun _ h => h.1))
      have n5_ := Aside0.mk (KeepBut.trans (uK2 HK GW101.out GW104.out) hk (.inl rfl))
      have n6_ := Aside0.mk (hb)
      have n7_ := Aside0.mk (hi)
      have z_HO_105001 := fun (h0_ : b 19 = false) => (show Kd.R k33 33 w65 w.heap.size (fun _ => True) u105001 x105001_1 from by first | exact (Kd.R_mono (Kd.R_keep (IsS115.apart (show IsS115 w0 _ g s0_0 t122 from uI2 HI0 NB0_101.out NB0_104.out) (by (with_reducible repeat (first | apply Kd.R_alloc | apply Kd.R_drewN | apply Kd.R_drew)); exact (Q_HO_105001 h0_)) (by decide)) hk (fun _ h => h.2)) (fun _ h => h.1)) | exact Kd.R_mono (Kd.R_mono (Kd.R_keep (IsS115.apart (show IsS115 w0 _ g s0_0 t122 from uI2 HI0 NB0_101.out NB0_104.out) (by (with_reducible repeat (first | apply Kd.R_alloc | apply Kd.R_drewN | apply Kd.R_drew)); exact (Q_HO_105001 h0_)) (by decide)) hk (fun _ h => h.2)) (fun _ h => h.1)) (fun _ h_ => by first | trivial | exact h_ | exact h_.1))
      have z_HO_105001_e19 := fun (h0_ : b 19 = true) => (show Kd.R k33 33 w65 w.heap.size (fun k_ => k_ ≠ gb125) u105001 x105001_1 from by first | exact (Kd.R_mono (Kd.R_keep (IsS115.apart (show IsS115 w0 _ g s0_0 t122 from uI3 HI0 NB0_101.out NB0_104.out (Q_NB0_125 h0_)) (by (with_reducible repeat (first | apply Kd.R_alloc | apply Kd.R_drewN | apply Kd.R_drew)); exact (Q_HO_105001_e19 h0_)) (by decide)) hk (fun _ h => h.2)) (fun _ h => h.1)) | exact Kd.R_mono (Kd.R_mono (Kd.R_keep (IsS115.apart (show IsS115 w0 _ g s0_0 t122 from uI3 HI0 NB0_101.out NB0_104.out (Q_NB0_125 h0_)) (by (with_reducible repeat (first | apply Kd.R_alloc | apply Kd.R_drewN | apply Kd.R_drew)); exact (Q_HO_105001_e19 h0_)) (by decide)) hk (fun _ h => h.2)) (fun _ h => h.1)) (fun _ h_ => by first | trivial | exact h_ | exact h_.1))
      have z_BK125 := fun (h0_ : b 19 = true) (h1_ : b 20 = false) => (show w65.heap[gb125]? = some (.cells #[.int .i64 0, .int .i64 0, .int .i64 0, .int .i64 0, .int .i64 0] 33 (0, 0)) from by first | exact (KeepBut.blk hk (g' := gb125) (o := .cells #[.int .i64 0, .int .i64 0, .int .i64 0, .int .i64 0, .int .i64 0] 33 (0, 0)) (by (with_reducible repeat (first | refine blk_drewN ?_ _ | refine blk_drew ?_ | refine blk_alloc ?_ _)); exact (Q_BK125 h0_ h1_)) (Q_NB125_0 h0_) (by simp)))
      clear BK101
      clear BK104
      clear HO115
      clear HO120
      clear HK
      clear HB
      clear HI0
      have BK101 := n1_
      have BK104 := n2_
      have HO115 := n3_
      have HO120 := n4_
      have HK := n5_
      have HB := n6_
      have HI0 := n7_
      clear n1_ n2_ n3_ n4_ n5_ n6_ n7_
      (try clear hb)
      (try clear hb2)
      (try clear hk)
      (try clear hi)
      refine hK.out _ _ ⟨v114, v119, gb125, m19_, (by rw [ha.out]; exact putSel_upk 9 hb_ rfl rfl rfl), z_HO_105001, (ub BK101), (ub BK104), fun h0_ => absurd ((hon 3 (by kernel_rfl)).symm.trans h0_) (by decide), (uK2 HK GW101.out GW104.out), (uB3 HB (IsS115.ge HI0.out) GE101.out GE104.out), fun _ h1_ => absurd ((hon 7 (by kernel_rfl)).symm.trans h1_) (by decide), fun _ h1_ => absurd ((hon 10 (by kernel_rfl)).symm.trans h1_) (by decide), fun _ h1_ => absurd ((hon 12 (by kernel_rfl)).symm.trans h1_) (by decide), fun _ => (ur HO115), fun _ h1_ => absurd ((hon 15 (by kernel_rfl)).symm.trans h1_) (by decide), fun _ => (ur HO120), fun _ h1_ => absurd ((up_self b 17).symm.trans h1_) (by decide), fun _ => (uI2 HI0 NB0_101.out NB0_104.out), z_HO_105001_e19, z_BK125, Q_GW125, Q_GE125, Q_NB0_125, Q_NB125_0, Q_NB101_125, Q_NB125_101, Q_NB104_125, Q_NB125_104, fun h0_ => absurd ((hoff 20 (by kernel_rfl)).symm.trans h0_) (by decide), Q_X19_⟩
     refine steps_cons ?_ ?_
     ·
      rintro b a w' ⟨v114, v119, gb125, m19_, ha, Q_HO_105001, Q_BK101, Q_BK104, Q_HI0, Q_HK, Q_HB, Q_HI0_e3, Q_HI0_e7, Q_HI0_e10, Q_HO115, Q_HI0_e12, Q_HO120, Q_HI0_e15, Q_HI0_e17, Q_HO_105001_e19, Q_BK125, Q_GW125, Q_GE125, Q_NB0_125, Q_NB125_0, Q_NB101_125, Q_NB125_101, Q_NB104_125, Q_NB125_104, Q_BK125_e20, Q_X19_⟩ hb_ hon hoff
      refine ⟨_, rfl, fun K hK => ?_⟩
      have e19 : a.tmps[19]? = some (.int .i64 t107) := by rw [ha]; exact putSel_on (e := (3, 19, .int .i64 t107)) 1 rfl rfl (hon 3 (by kernel_rfl)) rfl
      have e23 : a.tmps[23]? = some (.int .i64 t109) := by rw [ha]; exact putSel_on (e := (7, 23, .int .i64 t109)) 3 rfl rfl (hon 7 (by kernel_rfl)) rfl
      have e28 : a.tmps[28]? = some (.int .i64 t116) := by rw [ha]; exact putSel_on (e := (12, 28, .int .i64 t116)) 6 rfl rfl (hon 12 (by kernel_rfl)) rfl
      have e31 : a.tmps[31]? = some (.int .i64 t121) := by rw [ha]; exact putSel_on (e := (15, 31, .int .i64 t121)) 8 rfl rfl (hon 15 (by kernel_rfl)) rfl
      have e33 : a.tmps[33]? = some (.int .i64 t123) := by rw [ha]; exact putSel_on (e := (17, 33, .int .i64 t123)) 9 rfl rfl (hon 17 (by kernel_rfl)) rfl
      replace ha := Aside0.mk ha
      have BK101 := Aside0.mk Q_BK101
      have BK104 := Aside0.mk Q_BK104
      have HK := Aside0.mk Q_HK
      have HB := Aside0.mk Q_HB
      have HO115 := Aside0.mk (Q_HO115 (hon 11 (by kernel_rfl)))
      have HO120 := Aside0.mk (Q_HO120 (hon 14 (by kernel_rfl)))
      have HI0 := Aside0.mk (Q_HI0_e17 (hon 17 (by kernel_rfl)))
      refine value_ (w1 := w') (v := .agg #[.int .i64 t107, .int .i64 t109, .int .i64 t116, .int .i64 t121, .int .i64 t123]) (by rfl) rfl ?_ ?_
      ·
       go_simp
       (try simp only [i64_w])
       try rfl
      refine hK.out _ _ ⟨v114, v119, gb125, m19_, (by rw [ha.out]; exact putSel_upk 10 hb_ rfl rfl rfl), Q_HO_105001, Q_BK101, Q_BK104, fun h0_ => absurd ((hon 3 (by kernel_rfl)).symm.trans h0_) (by decide), Q_HK, Q_HB, fun _ h1_ => absurd ((hon 7 (by kernel_rfl)).symm.trans h1_) (by decide), fun _ h1_ => absurd ((hon 10 (by kernel_rfl)).symm.trans h1_) (by decide), fun _ h1_ => absurd ((hon 12 (by kernel_rfl)).symm.trans h1_) (by decide), Q_HO115, fun _ h1_ => absurd ((hon 15 (by kernel_rfl)).symm.trans h1_) (by decide), Q_HO120, fun _ h1_ => absurd ((hon 17 (by kernel_rfl)).symm.trans h1_) (by decide), Q_HI0_e17, Q_HO_105001_e19, Q_BK125, Q_GW125, Q_GE125, Q_NB0_125, Q_NB125_0, Q_NB101_125, Q_NB125_101, Q_NB104_125, Q_NB125_104, fun h0_ => absurd ((hoff 20 (by kernel_rfl)).symm.trans h0_) (by decide), Q_X19_⟩
     refine steps_cons ?_ ?_
     ·
      rintro b a w' ⟨v114, v119, gb125, m19_, ha, Q_HO_105001, Q_BK101, Q_BK104, Q_HI0, Q_HK, Q_HB, Q_HI0_e3, Q_HI0_e7, Q_HI0_e10, Q_HO115, Q_HI0_e12, Q_HO120, Q_HI0_e15, Q_HI0_e17, Q_HO_105001_e19, Q_BK125, Q_GW125, Q_GE125, Q_NB0_125, Q_NB125_0, Q_NB101_125, Q_NB125_101, Q_NB104_125, Q_NB125_104, Q_BK125_e20, Q_X19_⟩ hb_ hon hoff
      refine ⟨_, rfl, fun K hK => ?_⟩
      replace ha := Aside0.mk ha
      have HO_105001 := Aside0.mk (Q_HO_105001 hb_)
      have BK101 := Aside0.mk Q_BK101
      have BK104 := Aside0.mk Q_BK104
      have HK := Aside0.mk Q_HK
      have HB := Aside0.mk Q_HB
      refine box_step ?hg (N := 5) ?hd (cs := #[.int .i64 0, .int .i64 0, .int .i64 0, .int .i64 0, .int .i64 0]) (t := 33) ?hr ?_; (case hd => rfl); (case hg => rfl); (case hr => first | (go_simp; done) | (go_simp; rfl))
      intro gb125 hg w53 hbox hb
      have n0_ := Aside0.mk (Kd.R_below (Kd.R_elderB (ur HO_105001) gb125 (Nat.le_of_eq hg.symm)) hb)
      have n1_ := Aside0.mk (blk_below (g := gb101) (o := .cells #[.int .i64 0, .slice none 0 0] 25 (0, 0)) (ub BK101) hb)
      have n2_ := Aside0.mk (blk_below (g := gb104) (o := .cells #[.int .i64 (wrap64 (2 + t102)), u105001] 25 (0, 0)) (ub BK104) hb)
      have n4_ := Aside0.mk (KeepBut.trans (uK2 HK GW101.out GW104.out) (KeepBut.of_below hb g none) (.inl rfl))
      have n5_ := Aside0.mk (below_step (uB2 HB GE101.out GE104.out) hb)
      have n6_ := Aside0.mk (hbox)
      have n7_ := Aside0.mk ((by rw [hg]; exact (keep_size (w := w) (g := g) (row := none) (uK2 HK GW101.out GW104.out)) : w.heap.size ≤ gb125))
      have n8_ := Aside0.mk ((Nat.le_trans HW0.out (by rw [hg]; exact (keep_size (w := w) (g := g) (row := none) (uK2 HK GW101.out GW104.out)) : w.heap.size ≤ gb125) : w0.heap.size ≤ gb125))
      have n9_ := Aside0.mk ((by rw [hg]; exact Nat.ne_of_lt (blk_lt (g := gb101) (o := .cells #[.int .i64 0, .slice none 0 0] 25 (0, 0)) (ub BK101)) : gb101 ≠ gb125))
      have n10_ := Aside0.mk ((by rw [hg]; exact Nat.ne_of_gt (blk_lt (g := gb101) (o := .cells #[.int .i64 0, .slice none 0 0] 25 (0, 0)) (ub BK101)) : gb125 ≠ gb101))
      have n11_ := Aside0.mk ((by rw [hg]; exact Nat.ne_of_lt (blk_lt (g := gb104) (o := .cells #[.int .i64 (wrap64 (2 + t102)), u105001] 25 (0, 0)) (ub BK104)) : gb104 ≠ gb125))
      have n12_ := Aside0.mk ((by rw [hg]; exact Nat.ne_of_gt (blk_lt (g := gb104) (o := .cells #[.int .i64 (wrap64 (2 + t102)), u105001] 25 (0, 0)) (ub BK104)) : gb125 ≠ gb104))
      have n13_ := Aside0.mk ((by rw [hg]; exact Nat.ne_of_lt (Nat.lt_of_lt_of_le HGL0.out (keep_size (w := w) (g := g) (row := none) (uK2 HK GW101.out GW104.out))) : g ≠ gb125))
      have n14_ := Aside0.mk ((by rw [hg]; exact Nat.ne_of_gt (Nat.lt_of_lt_of_le HGL0.out (keep_size (w := w) (g := g) (row := none) (uK2 HK GW101.out GW104.out))) : gb125 ≠ g))
      have z_HI0 := fun (h0_ : b 3 = false) => (show IsS115 w0 w53 g s0_0 x1001_1 from by first | exact (IsS115.below (by repeat (first | (with_reducible first | exact (Q_HI0 h0_) | apply IsS115.alloc | apply IsS115.drewN | apply IsS115.drew | apply IsS115.set_1 | refine IsS115.far ?_ NB0_101.out _ | refine IsS115.far ?_ NB0_104.out _) | exact (Q_HI0 h0_))) hb))
      have z_HI0_e3 := fun (h0_ : b 3 = true) (h1_ : b 7 = false) => (show IsS115 w0 w53 g s0_0 t108 from by first | exact (IsS115.below (by repeat (first | (with_reducible first | exact (Q_HI0_e3 h0_ h1_) | apply IsS115.alloc | apply IsS115.drewN | apply IsS115.drew | apply IsS115.set_1 | refine IsS115.far ?_ NB0_101.out _ | refine IsS115.far ?_ NB0_104.out _) | exact (Q_HI0_e3 h0_ h1_))) hb))
      have z_HI0_e7 := fun (h0_ : b 7 = true) (h1_ : b 10 = false) => (show IsS115 w0 w53 g s0_0 t110 from by first | exact (IsS115.below (by repeat (first | (with_reducible first | exact (Q_HI0_e7 h0_ h1_) | apply IsS115.alloc | apply IsS115.drewN | apply IsS115.drew | apply IsS115.set_1 | refine IsS115.far ?_ NB0_101.out _ | refine IsS115.far ?_ NB0_104.out _) | exact (Q_HI0_e7 h0_ h1_))) hb))
      have z_HI0_e10 := fun (h0_ : b 10 = true) (h1_ : b 12 = false) => (show IsS115 w0 w53 g s0_0 t112 from by first | exact (IsS115.below (by repeat (first | (with_reducible first | exact (Q_HI0_e10 h0_ h1_) | apply IsS115.alloc | apply IsS115.drewN | apply IsS115.drew | apply IsS115.set_1 | refine IsS115.far ?_ NB0_101.out _ | refine IsS115.far ?_ NB0_104.out _) | exact (Q_HI0_e10 h0_ h1_))) hb))
      have z_HO115 := fun (h0_ : b 11 = true) => (show Kd.R (Kd.int .i64) 3 w53 w.heap.size (fun _ => True) v114 y113 from by first | exact (Kd.R_below (by (with_reducible repeat (first | apply Kd.R_alloc | apply Kd.R_drewN | apply Kd.R_drew)); exact (Q_HO115 h0_)) hb) | exact Kd.R_mono (Kd.R_below (by (with_reducible repeat (first | apply Kd.R_alloc | apply Kd.R_drewN | apply Kd.R_drew)); exact (Q_HO115 h0_)) hb) (fun _ h_ => by first | trivial | exact h_ | exact h_.1))
      have z_HI0_e12 := fun (h0_ : b 12 = true) (h1_ : b 15 = false) => (show IsS115 w0 w53 g s0_0 t117 from by first | exact (IsS115.below (by repeat (first | (with_reducible first | exact (Q_HI0_e12 h0_ h1_) | apply IsS115.alloc | apply IsS115.drewN | apply IsS115.drew | apply IsS115.set_1 | refine IsS115.far ?_ NB0_101.out _ | refine IsS115.far ?_ NB0_104.out _) | exact (Q_HI0_e12 h0_ h1_))) hb))
      have z_HO120 := fun (h0_ : b 14 = true) => (show Kd.R (Kd.int .i64) 3 w53 w.heap.size (fun _ => True) v119 y118 from by first | exact (Kd.R_below (by (with_reducible repeat (first | apply Kd.R_alloc | apply Kd.R_drewN | apply Kd.R_drew)); exact (Q_HO120 h0_)) hb) | exact Kd.R_mono (Kd.R_below (by (with_reducible repeat (first | apply Kd.R_alloc | apply Kd.R_drewN | apply Kd.R_drew)); exact (Q_HO120 h0_)) hb) (fun _ h_ => by first | trivial | exact h_ | exact h_.1))
      have z_HI0_e15 := fun (h0_ : b 15 = true) (h1_ : b 17 = false) => (show IsS115 w0 w53 g s0_0 t122 from by first | exact (IsS115.below (by repeat (first | (with_reducible first | exact (Q_HI0_e15 h0_ h1_) | apply IsS115.alloc | apply IsS115.drewN | apply IsS115.drew | apply IsS115.set_1 | refine IsS115.far ?_ NB0_101.out _ | refine IsS115.far ?_ NB0_104.out _) | exact (Q_HI0_e15 h0_ h1_))) hb))
      have z_HI0_e17 := fun (h0_ : b 17 = true) => (show IsS115 w0 w53 g s0_0 t124 from by first | exact (IsS115.below (by repeat (first | (with_reducible first | exact (Q_HI0_e17 h0_) | apply IsS115.alloc | apply IsS115.drewN | apply IsS115.drew | apply IsS115.set_1 | refine IsS115.far ?_ NB0_101.out _ | refine IsS115.far ?_ NB0_104.out _) | exact (Q_HI0_e17 h0_))) hb))
      clear HO_105001
      clear BK101
      clear BK104
      clear HK
      clear HB
      have HO_105001 := n0_
      have BK101 := n1_
      have BK104 := n2_
      have HK := n4_
      have HB := n5_
      have BK125 := n6_
      have GW125 := n7_
      have GE125 := n8_
      have NB101_125 := n9_
      have NB125_101 := n10_
      have NB104_125 := n11_
      have NB125_104 := n12_
      have NB0_125 := n13_
      have NB125_0 := n14_
      clear n0_ n1_ n2_ n4_ n5_ n6_ n7_ n8_ n9_ n10_ n11_ n12_ n13_ n14_
      clear hb hbox hg
      refine hK.out _ _ ⟨v114, v119, gb125, (.pointer (some ⟨gb125, 0, none⟩)), (by rw [ha.out]; exact putSel_upk 11 hb_ rfl rfl rfl), fun h0_ => absurd ((up_self b 19).symm.trans h0_) (by decide), (ub BK101), (ub BK104), z_HI0, (uK3 HK GW101.out GW104.out GW125.out), (uB3 HB GE101.out GE104.out GE125.out), z_HI0_e3, z_HI0_e7, z_HI0_e10, z_HO115, z_HI0_e12, z_HO120, z_HI0_e15, z_HI0_e17, fun _ => (by (with_reducible repeat (first | apply Kd.R_alloc | apply Kd.R_drewN | apply Kd.R_drew)); exact Kd.R_mono HO_105001.out (fun _ hk => hk.2)), fun _ _ => (ub BK125), fun _ => GW125.out, fun _ => GE125.out, fun _ => NB0_125.out, fun _ => NB125_0.out, fun _ => NB101_125.out, fun _ => NB125_101.out, fun _ => NB104_125.out, fun _ => NB125_104.out, fun h0_ => absurd ((hoff 20 (by kernel_rfl)).symm.trans h0_) (by decide), fun _ => rfl⟩
     refine steps_cons ?_ ?_
     ·
      rintro b a w' ⟨v114, v119, gb125, m19_, ha, Q_HO_105001, Q_BK101, Q_BK104, Q_HI0, Q_HK, Q_HB, Q_HI0_e3, Q_HI0_e7, Q_HI0_e10, Q_HO115, Q_HI0_e12, Q_HO120, Q_HI0_e15, Q_HI0_e17, Q_HO_105001_e19, Q_BK125, Q_GW125, Q_GE125, Q_NB0_125, Q_NB125_0, Q_NB101_125, Q_NB125_101, Q_NB104_125, Q_NB125_104, Q_BK125_e20, Q_X19_⟩ hb_ hon hoff
      refine ⟨_, rfl, fun K hK => ?_⟩
      have e5 : a.tmps[5]? = some (m19_) := by rw [ha]; exact putSel_on (e := (19, 5, m19_)) 11 rfl rfl (hon 19 (by kernel_rfl)) rfl
      rw [Q_X19_ (hon 19 (by kernel_rfl))] at e5
      have e34 : a.tmps[34]? = some (.agg #[.int .i64 t107, .int .i64 t109, .int .i64 t116, .int .i64 t121, .int .i64 t123]) := by rw [ha]; exact putSel_on (e := (18, 34, .agg #[.int .i64 t107, .int .i64 t109, .int .i64 t116, .int .i64 t121, .int .i64 t123])) 10 rfl rfl (hon 18 (by kernel_rfl)) rfl
      replace ha := Aside0.mk ha
      have BK101 := Aside0.mk Q_BK101
      have BK104 := Aside0.mk Q_BK104
      have HK := Aside0.mk Q_HK
      have HB := Aside0.mk Q_HB
      have HO115 := Aside0.mk (Q_HO115 (hon 11 (by kernel_rfl)))
      have HO120 := Aside0.mk (Q_HO120 (hon 14 (by kernel_rfl)))
      have HI0 := Aside0.mk (Q_HI0_e17 (hon 17 (by kernel_rfl)))
      have HO_105001 := Aside0.mk (Q_HO_105001_e19 (hon 19 (by kernel_rfl)))
      have BK125 := Aside0.mk (Q_BK125 (hon 19 (by kernel_rfl)) hb_)
      have GW125 := Aside0.mk (Q_GW125 (hon 19 (by kernel_rfl)))
      have GE125 := Aside0.mk (Q_GE125 (hon 19 (by kernel_rfl)))
      have NB0_125 := Aside0.mk (Q_NB0_125 (hon 19 (by kernel_rfl)))
      have NB125_0 := Aside0.mk (Q_NB125_0 (hon 19 (by kernel_rfl)))
      have NB101_125 := Aside0.mk (Q_NB101_125 (hon 19 (by kernel_rfl)))
      have NB125_101 := Aside0.mk (Q_NB125_101 (hon 19 (by kernel_rfl)))
      have NB104_125 := Aside0.mk (Q_NB104_125 (hon 19 (by kernel_rfl)))
      have NB125_104 := Aside0.mk (Q_NB125_104 (hon 19 (by kernel_rfl)))
      have hs67 : w'.cell? ⟨gb125, 0, none⟩ = some (.int .i64 0) := (blk_cell BK125.out 0).trans rfl
      have hfs67 := blk_frozen BK125.out 0
      have hns67_0 := NB101_125.out
      have hns67_1 := NB104_125.out
      have hms67_0 := NB125_101.out
      have hms67_1 := NB125_104.out
      have hs68 : w'.cell? ⟨gb125, 1, none⟩ = some (.int .i64 0) := (blk_cell BK125.out 1).trans rfl
      have hfs68 := blk_frozen BK125.out 1
      have hns68_0 := NB101_125.out
      have hns68_1 := NB104_125.out
      have hms68_0 := NB125_101.out
      have hms68_1 := NB125_104.out
      have hs69 : w'.cell? ⟨gb125, 2, none⟩ = some (.int .i64 0) := (blk_cell BK125.out 2).trans rfl
      have hfs69 := blk_frozen BK125.out 2
      have hns69_0 := NB101_125.out
      have hns69_1 := NB104_125.out
      have hms69_0 := NB125_101.out
      have hms69_1 := NB125_104.out
      have hs70 : w'.cell? ⟨gb125, 3, none⟩ = some (.int .i64 0) := (blk_cell BK125.out 3).trans rfl
      have hfs70 := blk_frozen BK125.out 3
      have hns70_0 := NB101_125.out
      have hns70_1 := NB104_125.out
      have hms70_0 := NB125_101.out
      have hms70_1 := NB125_104.out
      have hs71 : w'.cell? ⟨gb125, 4, none⟩ = some (.int .i64 0) := (blk_cell BK125.out 4).trans rfl
      have hfs71 := blk_frozen BK125.out 4
      have hns71_0 := NB101_125.out
      have hns71_1 := NB104_125.out
      have hms71_0 := NB125_101.out
      have hms71_1 := NB125_104.out
      refine skip_ (w1 := ?_) (by rfl) rfl ?_ ?_
      rotate_left
      ·
       go_simp
       rfl
      refine hK.out _ _ ⟨v114, v119, gb125, m19_, (by rw [ha.out]; exact putSel_none (v := undef) rfl), fun h0_ => absurd ((hon 19 (by kernel_rfl)).symm.trans h0_) (by decide), (by (with_reducible repeat (first | refine blk_drewN ?_ _ | refine blk_drew ?_ | refine blk_alloc ?_ _)); refine blk_far ?_ NB101_125.out _; (with_reducible repeat (first | refine blk_drewN ?_ _ | refine blk_drew ?_ | refine blk_alloc ?_ _)); refine blk_far ?_ NB101_125.out _; (with_reducible repeat (first | refine blk_drewN ?_ _ | refine blk_drew ?_ | refine blk_alloc ?_ _)); refine blk_far ?_ NB101_125.out _; (with_reducible repeat (first | refine blk_drewN ?_ _ | refine blk_drew ?_ | refine blk_alloc ?_ _)); refine blk_far ?_ NB101_125.out _; (with_reducible repeat (first | refine blk_drewN ?_ _ | refine blk_drew ?_ | refine blk_alloc ?_ _)); refine blk_far ?_ NB101_125.out _; exact ub BK101), (by (with_reducible repeat (first | refine blk_drewN ?_ _ | refine blk_drew ?_ | refine blk_alloc ?_ _)); refine blk_far ?_ NB104_125.out _; (with_reducible repeat (first | refine blk_drewN ?_ _ | refine blk_drew ?_ | refine blk_alloc ?_ _)); refine blk_far ?_ NB104_125.out _; (with_reducible repeat (first | refine blk_drewN ?_ _ | refine blk_drew ?_ | refine blk_alloc ?_ _)); refine blk_far ?_ NB104_125.out _; (with_reducible repeat (first | refine blk_drewN ?_ _ | refine blk_drew ?_ | refine blk_alloc ?_ _)); refine blk_far ?_ NB104_125.out _; (with_reducible repeat (first | refine blk_drewN ?_ _ | refine blk_drew ?_ | refine blk_alloc ?_ _)); refine blk_far ?_ NB104_125.out _; exact ub BK104), fun h0_ => absurd ((hon 3 (by kernel_rfl)).symm.trans h0_) (by decide), (uK3 HK GW101.out GW104.out GW125.out), (uB4 HB (IsS115.ge HI0.out) GE101.out GE104.out GE125.out), fun _ h1_ => absurd ((hon 7 (by kernel_rfl)).symm.trans h1_) (by decide), fun _ h1_ => absurd ((hon 10 (by kernel_rfl)).symm.trans h1_) (by decide), fun _ h1_ => absurd ((hon 12 (by kernel_rfl)).symm.trans h1_) (by decide), fun _ => (by (with_reducible repeat (first | apply Kd.R_alloc | apply Kd.R_drewN | apply Kd.R_drew)); exact Kd.R_mono (Kd.R_far (p := ⟨gb125, 4, none⟩) (Kd.R_far (p := ⟨gb125, 3, none⟩) (Kd.R_far (p := ⟨gb125, 2, none⟩) (Kd.R_far (p := ⟨gb125, 1, none⟩) (Kd.R_far (p := ⟨gb125, 0, none⟩) (Kd.R_types HO115.out BK125.out (by decide)) (fun _ hk => hk.2) (.int .i64 t107)) (fun _ hk => hk.2) (.int .i64 t109)) (fun _ hk => hk.2) (.int .i64 t116)) (fun _ hk => hk.2) (.int .i64 t121)) (fun _ hk => hk.2) (.int .i64 t123)) (fun _ hk => hk.1)), fun _ h1_ => absurd ((hon 15 (by kernel_rfl)).symm.trans h1_) (by decide), fun _ => (by (with_reducible repeat (first | apply Kd.R_alloc | apply Kd.R_drewN | apply Kd.R_drew)); exact Kd.R_mono (Kd.R_far (p := ⟨gb125, 4, none⟩) (Kd.R_far (p := ⟨gb125, 3, none⟩) (Kd.R_far (p := ⟨gb125, 2, none⟩) (Kd.R_far (p := ⟨gb125, 1, none⟩) (Kd.R_far (p := ⟨gb125, 0, none⟩) (Kd.R_types HO120.out BK125.out (by decide)) (fun _ hk => hk.2) (.int .i64 t107)) (fun _ hk => hk.2) (.int .i64 t109)) (fun _ hk => hk.2) (.int .i64 t116)) (fun _ hk => hk.2) (.int .i64 t121)) (fun _ hk => hk.2) (.int .i64 t123)) (fun _ hk => hk.1)), fun _ h1_ => absurd ((hon 17 (by kernel_rfl)).symm.trans h1_) (by decide), fun _ => (uI3 HI0 NB0_101.out NB0_104.out NB0_125.out), fun _ => (by (with_reducible repeat (first | apply Kd.R_alloc | apply Kd.R_drewN | apply Kd.R_drew)); exact Kd.R_mono (Kd.R_far (p := ⟨gb125, 4, none⟩) (Kd.R_far (p := ⟨gb125, 3, none⟩) (Kd.R_far (p := ⟨gb125, 2, none⟩) (Kd.R_far (p := ⟨gb125, 1, none⟩) (Kd.R_far (p := ⟨gb125, 0, none⟩) (Kd.R_mono HO_105001.out (fun k_ hk => (⟨hk, hk⟩ : _ ∧ k_ ≠ gb125))) (fun _ hk => hk.2) (.int .i64 t107)) (fun _ hk => hk.2) (.int .i64 t109)) (fun _ hk => hk.2) (.int .i64 t116)) (fun _ hk => hk.2) (.int .i64 t121)) (fun _ hk => hk.2) (.int .i64 t123)) (fun _ hk => hk.1)), fun _ h1_ => absurd ((up_self b 20).symm.trans h1_) (by decide), fun _ => GW125.out, fun _ => GE125.out, fun _ => NB0_125.out, fun _ => NB125_0.out, fun _ => NB101_125.out, fun _ => NB125_101.out, fun _ => NB104_125.out, fun _ => NB125_104.out, fun _ => (by (with_reducible repeat (first | refine blk_drewN ?_ _ | refine blk_drew ?_ | refine blk_alloc ?_ _)); refine blk_put (cs := #[.int .i64 t107, .int .i64 t109, .int .i64 t116, .int .i64 t121, .int .i64 0]) ?_ 4 _ rfl; (with_reducible repeat (first | refine blk_drewN ?_ _ | refine blk_drew ?_ | refine blk_alloc ?_ _)); refine blk_put (cs := #[.int .i64 t107, .int .i64 t109, .int .i64 t116, .int .i64 0, .int .i64 0]) ?_ 3 _ rfl; (with_reducible repeat (first | refine blk_drewN ?_ _ | refine blk_drew ?_ | refine blk_alloc ?_ _)); refine blk_put (cs := #[.int .i64 t107, .int .i64 t109, .int .i64 0, .int .i64 0, .int .i64 0]) ?_ 2 _ rfl; (with_reducible repeat (first | refine blk_drewN ?_ _ | refine blk_drew ?_ | refine blk_alloc ?_ _)); refine blk_put (cs := #[.int .i64 t107, .int .i64 0, .int .i64 0, .int .i64 0, .int .i64 0]) ?_ 1 _ rfl; (with_reducible repeat (first | refine blk_drewN ?_ _ | refine blk_drew ?_ | refine blk_alloc ?_ _)); refine blk_put (cs := #[.int .i64 0, .int .i64 0, .int .i64 0, .int .i64 0, .int .i64 0]) ?_ 0 _ rfl; exact ub BK125), Q_X19_⟩
     exact steps_nil
    rintro b a w71 hall ⟨v114, v119, gb125, m19_, ha, Q_HO_105001, Q_BK101, Q_BK104, Q_HI0, Q_HK, Q_HB, Q_HI0_e3, Q_HI0_e7, Q_HI0_e10, Q_HO115, Q_HI0_e12, Q_HO120, Q_HI0_e15, Q_HI0_e17, Q_HO_105001_e19, Q_BK125, Q_GW125, Q_GE125, Q_NB0_125, Q_NB125_0, Q_NB101_125, Q_NB125_101, Q_NB104_125, Q_NB125_104, Q_BK125_e20, Q_X19_⟩
    clear BK101 BK104 HB HI0 HK HO_105001
    have hb2_ := hall 2 (by kernel_rfl)
    have hb3_ := hall 3 (by kernel_rfl)
    have hb6_ := hall 6 (by kernel_rfl)
    have hb7_ := hall 7 (by kernel_rfl)
    have hb10_ := hall 10 (by kernel_rfl)
    have hb11_ := hall 11 (by kernel_rfl)
    have hb12_ := hall 12 (by kernel_rfl)
    have hb14_ := hall 14 (by kernel_rfl)
    have hb15_ := hall 15 (by kernel_rfl)
    have hb17_ := hall 17 (by kernel_rfl)
    have hb18_ := hall 18 (by kernel_rfl)
    have hb19_ := hall 19 (by kernel_rfl)
    have hb20_ := hall 20 (by kernel_rfl)
    subst ha
    obtain rfl := Q_X19_ hb19_
    simp only [putSel, hb2_, hb3_, hb6_, hb7_, hb10_, hb11_, hb12_, hb14_, hb15_, hb17_, hb18_, hb19_, hb20_, if_true, Act.put, List.setIfInBounds_toArray, List.set_cons_zero, List.set_cons_succ]
    clear Q_HO_105001
    have BK101 := Aside0.mk Q_BK101
    clear Q_BK101
    have BK104 := Aside0.mk Q_BK104
    clear Q_BK104
    clear Q_HI0
    have HK := Aside0.mk Q_HK
    clear Q_HK
    have HB := Aside0.mk Q_HB
    clear Q_HB
    clear Q_HI0_e3
    clear Q_HI0_e7
    clear Q_HI0_e10
    have HO115 := Aside0.mk (Q_HO115 hb11_)
    clear Q_HO115
    clear Q_HI0_e12
    have HO120 := Aside0.mk (Q_HO120 hb14_)
    clear Q_HO120
    clear Q_HI0_e15
    have HI0 := Aside0.mk (Q_HI0_e17 hb17_)
    clear Q_HI0_e17
    have HO_105001 := Aside0.mk (Q_HO_105001_e19 hb19_)
    clear Q_HO_105001_e19
    clear Q_BK125
    have GW125 := Aside0.mk (Q_GW125 hb19_)
    clear Q_GW125
    have GE125 := Aside0.mk (Q_GE125 hb19_)
    clear Q_GE125
    have NB0_125 := Aside0.mk (Q_NB0_125 hb19_)
    clear Q_NB0_125
    have NB125_0 := Aside0.mk (Q_NB125_0 hb19_)
    clear Q_NB125_0
    have NB101_125 := Aside0.mk (Q_NB101_125 hb19_)
    clear Q_NB101_125
    have NB125_101 := Aside0.mk (Q_NB125_101 hb19_)
    clear Q_NB125_101
    have NB104_125 := Aside0.mk (Q_NB104_125 hb19_)
    clear Q_NB104_125
    have NB125_104 := Aside0.mk (Q_NB125_104 hb19_)
    clear Q_NB125_104
    have BK125 := Aside0.mk (Q_BK125_e20 hb20_)
    clear Q_BK125_e20
    clear hall hb2_ hb3_ hb6_ hb7_ hb10_ hb11_ hb12_ hb14_ hb15_ hb17_ hb18_ hb19_ hb20_
    have hnb72 := NB125_101.out
    have hnc72 := NB101_125.out
    have hnb73 := NB125_104.out
    have hnc73 := NB104_125.out
    have hnb74 := NB125_0.out
    have hnc74 := NB0_125.out
    have hcz75_0 : w71.cell? ⟨gb125, 0, none⟩ = some (.int .i64 t107) := (blk_cell BK125.out 0).trans rfl
    have hcz75_1 : w71.cell? ⟨gb125, 1, none⟩ = some (.int .i64 t109) := (blk_cell BK125.out 1).trans rfl
    have hcz75_2 : w71.cell? ⟨gb125, 2, none⟩ = some (.int .i64 t116) := (blk_cell BK125.out 2).trans rfl
    have hcz75_3 : w71.cell? ⟨gb125, 3, none⟩ = some (.int .i64 t121) := (blk_cell BK125.out 3).trans rfl
    have hcz75_4 : w71.cell? ⟨gb125, 4, none⟩ = some (.int .i64 t123) := (blk_cell BK125.out 4).trans rfl
    have hfz75_0 := blk_frozen BK125.out 0
    have hfz75_1 := blk_frozen BK125.out 1
    have hfz75_2 := blk_frozen BK125.out 2
    have hfz75_3 := blk_frozen BK125.out 3
    have hfz75_4 := blk_frozen BK125.out 4
    have hnb76 := NB104_101.out
    have hnc76 := NB101_104.out
    have hnb77 := NB104_0.out
    have hnc77 := NB0_104.out
    have hcz78_0 : w71.cell? ⟨gb104, 0, none⟩ = some (.int .i64 (wrap64 (2 + t102))) := (blk_cell BK104.out 0).trans rfl
    have hcz78_1 : w71.cell? ⟨gb104, 1, none⟩ = some (u105001) := (blk_cell BK104.out 1).trans rfl
    have hfz78_0 := blk_frozen BK104.out 0
    have hfz78_1 := blk_frozen BK104.out 1
    have H := HH_.out
    clear HH_
    by_cases c18 : t107 = t109
    ·
     rw [if_pos c18] at H
     have c18b0 : (t107 == t109) = true := beq_iff_eq.mpr c18
     have c18b1 : (t107 != t109) = false := bne_eq_false_iff_eq.mpr c18
     clear c18
     by_cases c19 : (wrap64 (2 + t102)) = 0
     ·
      rw [if_pos c19] at H
      exact absurd H (by simp)
     ·
      rw [if_neg c19] at H
      have c19b0 : ((wrap64 (2 + t102)) == 0) = false := beq_eq_false_iff_ne.mpr c19
      have c19b1 : ((wrap64 (2 + t102)) != 0) = true := bne_iff_ne.mpr c19
      by_cases c20 : x105001_1.length < 3518437208883
      ·
       rw [if_pos c20] at H
       have LMc20 := Aside0.mk c20
       clear c20
       obtain ⟨y126, hy126⟩ : ∃ y_ : List (S33), y_ = (x105001_1 ++ [(⟨t107, Int.tmod (wrap64 (t109 + 1)) (wrap64 (2 + t102)), t116, t121, t123⟩ : S33)]) := ⟨_, rfl⟩
       replace H : (spec_l30Net.l0 k1 (wrap64 (x4_1 - 1)) s0_0 t124 (wrap64 (2 + t102)) y126) = some (r1, r2, r3) := by first | (rw [hy126]; with_reducible exact H) | (have H2_ := (Option.bind_some _ _).symm.trans H; rw [hy126]; with_reducible exact H2_) | (have H2_ := (Option.bind_some _ _).symm.trans H; with_reducible exact H2_) | with_reducible exact H | (rw [hy126]; exact H) | exact H
       have Ny126 := Aside0.mk hy126
       clear hy126
       have H' := Aside0.mk H
       clear H
       try go_wp2_with (first | ((with_reducible refine gate_builtin (b := .append) (xs := #[.tmp 48, .tmp 50]) rfl ?_); at_builtin; refine Kd.R_append k33 w.heap.size rfl (.tmp 48) (.tmp 50) 23 33 (.agg #[(.int .i64 0), (.int .i64 0), (.int .i64 0), (.int .i64 0), (.int .i64 0)]) 40 rfl Try.underlying23 info33 rfl (by decide) (by omega) u105001 x105001_1 (⟨t107, Int.tmod (wrap64 (t109 + 1)) (wrap64 (2 + t102)), t116, t121, t123⟩ : S33) [.int .i64 t107, .int .i64 (Int.tmod (wrap64 (t109 + 1)) (wrap64 (2 + t102))), .int .i64 t116, .int .i64 t121, .int .i64 t123] (fun k_ => k_ ≠ gb125) (fun _ => False) rfl (by first | (go_simp; done) | (go_simp; rfl)) ?aP (fun _ hk => hk.elim) ?aF ?aO (Below.refl _ _) ?aS ?aL ?_; (case aP => exact k33_mkM _ _ _ (⟨t107, Int.tmod (wrap64 (t109 + 1)) (wrap64 (2 + t102)), t116, t121, t123⟩ : S33)); (case aF => exact (fun k_ hk => Kd.freshB (g := gb125) (o := .cells #[.int .i64 t107, .int .i64 (Int.tmod (wrap64 (t109 + 1)) (wrap64 (2 + t102))), .int .i64 t116, .int .i64 t121, .int .i64 t123] 33 (0, 0)) (by (with_reducible repeat (first | refine blk_drewN ?_ _ | refine blk_drew ?_ | refine blk_alloc ?_ _)); refine blk_put (cs := #[.int .i64 t107, .int .i64 t109, .int .i64 t116, .int .i64 t121, .int .i64 t123]) ?_ 1 _ rfl; exact ub BK125) k_ hk)); (case aO => exact (by (with_reducible repeat (first | apply Kd.R_alloc | apply Kd.R_drewN | apply Kd.R_drew)); exact Kd.R_mono (Kd.R_far (p := ⟨gb125, 1, none⟩) (Kd.R_mono HO_105001.out (fun k_ hk => (⟨hk, hk⟩ : _ ∧ k_ ≠ gb125))) (fun _ hk => hk.2) (.int .i64 (Int.tmod (wrap64 (t109 + 1)) (wrap64 (2 + t102))))) (fun _ hk => hk.1))); (case aS => exact (keep_size (w := w) (g := g) (row := none) (uK3 HK GW101.out GW104.out GW125.out))); (case aL => have := LMc20.out; omega); intro v127 w48 ho hb hg hat; rw [← Ny126.out] at ho; have n0_ := Aside0.mk (blk_grown (g := gb101) (o := .cells #[.int .i64 0, .slice none 0 0] 25 (0, 0)) (by (with_reducible repeat (first | refine blk_drewN ?_ _ | refine blk_drew ?_ | refine blk_alloc ?_ _)); refine blk_far ?_ NB101_125.out _; exact ub BK101) hg (Kd.R_ne HO_105001.out BK101.out (by decide))); have n1_ := Aside0.mk (blk_grown (g := gb104) (o := .cells #[.int .i64 (wrap64 (2 + t102)), u105001] 25 (0, 0)) (by (with_reducible repeat (first | refine blk_drewN ?_ _ | refine blk_drew ?_ | refine blk_alloc ?_ _)); refine blk_far ?_ NB104_125.out _; exact ub BK104) hg (Kd.R_ne HO_105001.out BK104.out (by decide))); have n2_ := Aside0.mk (IsS115.grown (IsS115.far HI0.out NB0_125.out _) hg (IsS115.own_ne HI0.out HO_105001.out (by decide))); have n5_ := Aside0.mk (blk_grown (g := gb125) (o := .cells #[.int .i64 t107, .int .i64 (Int.tmod (wrap64 (t109 + 1)) (wrap64 (2 + t102))), .int .i64 t116, .int .i64 t121, .int .i64 t123] 33 (0, 0)) (by (with_reducible repeat (first | refine blk_drewN ?_ _ | refine blk_drew ?_ | refine blk_alloc ?_ _)); refine blk_put (cs := #[.int .i64 t107, .int .i64 t109, .int .i64 t116, .int .i64 t121, .int .i64 t123]) ?_ 1 _ rfl; exact ub BK125) hg (Kd.R_away HO_105001.out (fun _ hk => hk))); have n6_ := Aside0.mk (below_weaken (uB4 HB (IsS115.ge HI0.out) GE101.out GE104.out GE125.out) HL.out hb); have n7_ := Aside0.mk (KeepBut.trans (uK3 HK GW101.out GW104.out GW125.out) (KeepBut.of_grown hg g) (Kd.R_base2 HO_105001.out)); have n8_ := Aside0.mk (ho); clear BK101; clear BK104; clear HI0; clear BK125; clear HB; clear HK; clear HO_105001; have BK101 := n0_; have BK104 := n1_; have HI0 := n2_; have BK125 := n5_; have HB := n6_; have HK := n7_; have HO128 := n8_; clear n0_ n1_ n2_ n5_ n6_ n7_ n8_; clear ho hb hg hat; obtain ⟨Ao49, co49, eo49⟩ := Kd.R_slice HO128.out; subst eo49; have hcz50_0 : w48.cell? ⟨gb104, 0, none⟩ = some (.int .i64 (wrap64 (2 + t102))) := (blk_cell BK104.out 0).trans rfl; have hcz50_1 : w48.cell? ⟨gb104, 1, none⟩ = some (u105001) := (blk_cell BK104.out 1).trans rfl; have hfz50_0 := blk_frozen BK104.out 0; have hfz50_1 := blk_frozen BK104.out 1))
       go_roundg k1
       case measure => have := HK1.out; omega
       case rel => exact ⟨(wrap64 (x4_1 - 1)), (t124), (y126), (.slice Ao49 y126.length co49), ue, H', ⟨by have := HK1.out; omega⟩, ⟨by (with_reducible repeat (first | apply Kd.R_alloc | apply Kd.R_drewN | apply Kd.R_drew)); exact Kd.R_mono (Kd.R_far (p := ⟨gb104, 1, none⟩) (Kd.R_types HO128.out BK104.out (by decide)) (fun _ hk => hk.2) (.slice Ao49 y126.length co49)) (fun _ hk => trivial)⟩, ⟨by (with_reducible repeat (first | refine blk_drewN ?_ _ | refine blk_drew ?_ | refine blk_alloc ?_ _)); refine blk_far ?_ NB101_104.out _; exact ub BK101⟩, ⟨by (with_reducible repeat (first | refine blk_drewN ?_ _ | refine blk_drew ?_ | refine blk_alloc ?_ _)); refine blk_put (cs := #[.int .i64 (wrap64 (2 + t102)), u105001]) ?_ 1 _ rfl; exact ub BK104⟩, ⟨uI3 HI0 NB0_101.out NB0_104.out NB0_125.out⟩, ⟨uK3 HK GW101.out GW104.out GW125.out⟩, ⟨uB4 HB (IsS115.ge HI0.out) GE101.out GE104.out GE125.out⟩⟩
      ·
       rw [if_neg c20] at H
       exact absurd H (by simp)
    ·
     rw [if_neg c18] at H
     have c18b0 : (t107 == t109) = false := beq_eq_false_iff_ne.mpr c18
     have c18b1 : (t107 != t109) = true := bne_iff_ne.mpr c18
     by_cases c51 : x105001_1.length < 3518437208883
     ·
      rw [if_pos c51] at H
      have LMc51 := Aside0.mk c51
      clear c51
      obtain ⟨y129, hy129⟩ : ∃ y_ : List (S33), y_ = (x105001_1 ++ [(⟨t107, t109, t116, t121, t123⟩ : S33)]) := ⟨_, rfl⟩
      replace H : (spec_l30Net.l0 k1 (wrap64 (x4_1 - 1)) s0_0 t124 (wrap64 (2 + t102)) y129) = some (r1, r2, r3) := by first | (rw [hy129]; with_reducible exact H) | (have H2_ := (Option.bind_some _ _).symm.trans H; rw [hy129]; with_reducible exact H2_) | (have H2_ := (Option.bind_some _ _).symm.trans H; with_reducible exact H2_) | with_reducible exact H | (rw [hy129]; exact H) | exact H
      have Ny129 := Aside0.mk hy129
      clear hy129
      have H' := Aside0.mk H
      clear H
      try go_wp2_with (first | ((with_reducible refine gate_builtin (b := .append) (xs := #[.tmp 48, .tmp 50]) rfl ?_); at_builtin; refine Kd.R_append k33 w.heap.size rfl (.tmp 48) (.tmp 50) 23 33 (.agg #[(.int .i64 0), (.int .i64 0), (.int .i64 0), (.int .i64 0), (.int .i64 0)]) 40 rfl Try.underlying23 info33 rfl (by decide) (by omega) u105001 x105001_1 (⟨t107, t109, t116, t121, t123⟩ : S33) [.int .i64 t107, .int .i64 t109, .int .i64 t116, .int .i64 t121, .int .i64 t123] (fun k_ => k_ ≠ gb125) (fun _ => False) rfl rfl ?aP (fun _ hk => hk.elim) ?aF ?aO (Below.refl _ _) ?aS ?aL ?_; (case aP => exact k33_mkM _ _ _ (⟨t107, t109, t116, t121, t123⟩ : S33)); (case aF => exact (fun k_ hk => Kd.freshB (g := gb125) (o := .cells #[.int .i64 t107, .int .i64 t109, .int .i64 t116, .int .i64 t121, .int .i64 t123] 33 (0, 0)) (ub BK125) k_ hk)); (case aO => exact (ur HO_105001)); (case aS => exact (keep_size (w := w) (g := g) (row := none) (uK3 HK GW101.out GW104.out GW125.out))); (case aL => have := LMc51.out; omega); intro v130 w79 ho hb hg hat; rw [← Ny129.out] at ho; have n0_ := Aside0.mk (blk_grown (g := gb101) (o := .cells #[.int .i64 0, .slice none 0 0] 25 (0, 0)) (ub BK101) hg (Kd.R_ne HO_105001.out BK101.out (by decide))); have n1_ := Aside0.mk (blk_grown (g := gb104) (o := .cells #[.int .i64 (wrap64 (2 + t102)), u105001] 25 (0, 0)) (ub BK104) hg (Kd.R_ne HO_105001.out BK104.out (by decide))); have n2_ := Aside0.mk (IsS115.grown HI0.out hg (IsS115.own_ne HI0.out HO_105001.out (by decide))); have n5_ := Aside0.mk (blk_grown (g := gb125) (o := .cells #[.int .i64 t107, .int .i64 t109, .int .i64 t116, .int .i64 t121, .int .i64 t123] 33 (0, 0)) (ub BK125) hg (Kd.R_away HO_105001.out (fun _ hk => hk))); have n6_ := Aside0.mk (below_weaken (uB4 HB (IsS115.ge HI0.out) GE101.out GE104.out GE125.out) HL.out hb); have n7_ := Aside0.mk (KeepBut.trans (uK3 HK GW101.out GW104.out GW125.out) (KeepBut.of_grown hg g) (Kd.R_base2 HO_105001.out)); have n8_ := Aside0.mk (ho); clear BK101; clear BK104; clear HI0; clear BK125; clear HB; clear HK; clear HO_105001; have BK101 := n0_; have BK104 := n1_; have HI0 := n2_; have BK125 := n5_; have HB := n6_; have HK := n7_; have HO131 := n8_; clear n0_ n1_ n2_ n5_ n6_ n7_ n8_; clear ho hb hg hat; obtain ⟨Ao80, co80, eo80⟩ := Kd.R_slice HO131.out; subst eo80; have hcz81_0 : w79.cell? ⟨gb104, 0, none⟩ = some (.int .i64 (wrap64 (2 + t102))) := (blk_cell BK104.out 0).trans rfl; have hcz81_1 : w79.cell? ⟨gb104, 1, none⟩ = some (u105001) := (blk_cell BK104.out 1).trans rfl; have hfz81_0 := blk_frozen BK104.out 0; have hfz81_1 := blk_frozen BK104.out 1))
      go_roundg k1
      case measure => have := HK1.out; omega
      case rel => exact ⟨(wrap64 (x4_1 - 1)), (t124), (y129), (.slice Ao80 y129.length co80), ue, H', ⟨by have := HK1.out; omega⟩, ⟨by (with_reducible repeat (first | apply Kd.R_alloc | apply Kd.R_drewN | apply Kd.R_drew)); exact Kd.R_mono (Kd.R_far (p := ⟨gb104, 1, none⟩) (Kd.R_types HO131.out BK104.out (by decide)) (fun _ hk => hk.2) (.slice Ao80 y129.length co80)) (fun _ hk => trivial)⟩, ⟨by (with_reducible repeat (first | refine blk_drewN ?_ _ | refine blk_drew ?_ | refine blk_alloc ?_ _)); refine blk_far ?_ NB101_104.out _; exact ub BK101⟩, ⟨by (with_reducible repeat (first | refine blk_drewN ?_ _ | refine blk_drew ?_ | refine blk_alloc ?_ _)); refine blk_put (cs := #[.int .i64 (wrap64 (2 + t102)), u105001]) ?_ 1 _ rfl; exact ub BK104⟩, ⟨uI3 HI0 NB0_101.out NB0_104.out NB0_125.out⟩, ⟨uK3 HK GW101.out GW104.out GW125.out⟩, ⟨uB4 HB (IsS115.ge HI0.out) GE101.out GE104.out GE125.out⟩⟩
     ·
      rw [if_neg c51] at H
      exact absurd H (by simp)
   ·
    rw [if_neg c11] at H
    have c11b0 : decide (0 < x4_1) = false := decide_eq_false c11
    clear c11
    simp only [Option.some.injEq, Prod.mk.injEq] at H
    obtain ⟨rfl, rfl, rfl⟩ := H
    have hnb82 := NB104_101.out
    have hnc82 := NB101_104.out
    have hnb83 := NB104_0.out
    have hnc83 := NB0_104.out
    have hcz84_0 : wr.cell? ⟨gb104, 0, none⟩ = some (.int .i64 (wrap64 (2 + t102))) := (blk_cell BK104.out 0).trans rfl
    have hcz84_1 : wr.cell? ⟨gb104, 1, none⟩ = some (u105001) := (blk_cell BK104.out 1).trans rfl
    have hfz84_0 := blk_frozen BK104.out 0
    have hfz84_1 := blk_frozen BK104.out 1
    have hnb85 := NB101_0.out
    have hnc85 := NB0_101.out
    have hcz86_0 : wr.cell? ⟨gb101, 0, none⟩ = some (.int .i64 0) := (blk_cell BK101.out 0).trans rfl
    have hcz86_1 : wr.cell? ⟨gb101, 1, none⟩ = some (.slice none 0 0) := (blk_cell BK101.out 1).trans rfl
    have hfz86_0 := blk_frozen BK101.out 0
    have hfz86_1 := blk_frozen BK101.out 1
    obtain ⟨Ao87, co87, eo87⟩ := Kd.R_slice HO_105001.out
    subst eo87
    go_wp2
    refine bodyPost_ret (results_cell_row rfl _ _ gb101 25 #[.int .i64 (wrap64 (2 + t102)), .slice Ao87 x105001_1.length co87] (0, 0) _ rfl (by (with_reducible repeat (first | refine blk_drewN ?_ _ | refine blk_drew ?_ | refine blk_alloc ?_ _)); refine blk_put (cs := #[.int .i64 (wrap64 (2 + t102)), .slice none 0 0]) ?_ 1 _ rfl; (with_reducible repeat (first | refine blk_drewN ?_ _ | refine blk_drew ?_ | refine blk_alloc ?_ _)); refine blk_put (cs := #[.int .i64 0, .slice none 0 0]) ?_ 0 _ rfl; exact ub BK101) Try.underlying25 rfl (by kernel_rfl)) rfl ?_
    exact ⟨_, by first | rfl | (simp [errW_none, errW_some] <;> rfl) | (simp [*, errW_none, errW_some] <;> rfl), by (with_reducible repeat (first | apply Kd.R_alloc | apply Kd.R_drewN | apply Kd.R_drew)); exact Kd.R_mono (Kd.R_far (p := ⟨gb101, 1, none⟩) (Kd.R_far (p := ⟨gb101, 0, none⟩) (Kd.R_types HO_105001.out BK101.out (by decide)) (fun _ hk => hk.2) (.int .i64 (wrap64 (2 + t102)))) (fun _ hk => hk.2) (.slice Ao87 x105001_1.length co87)) (fun _ hk => trivial), by repeat (first | (with_reducible first | exact HI0.out | apply IsS115.alloc | apply IsS115.drewN | apply IsS115.drew | apply IsS115.set_1 | refine IsS115.far ?_ NB0_101.out _ | refine IsS115.far ?_ NB0_104.out _) | exact HI0.out), by repeat (first | (with_reducible first | exact HB.out | apply below_alloc | apply pw_below_drewN | apply below_drew1 | refine below_set ?_ (IsS115.ge HI0.out) | refine below_set ?_ GE101.out | refine below_set ?_ GE104.out) | exact HB.out), by repeat (first | (with_reducible first | exact HK.out | apply KeepBut.set_ | apply keep_drewN | apply keep_drew | apply keep_alloc | refine keep_far ?_ GW101.out _ | refine keep_far ?_ GW104.out _) | exact HK.out)⟩

end Go.Proofs.Ytjmpngfgfddpaaa.P
