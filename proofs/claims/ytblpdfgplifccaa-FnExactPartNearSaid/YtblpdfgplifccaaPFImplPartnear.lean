-- written for this claim by a program (wip/gen/myprint.py over the print tool). Not trusted: Lean checks it.
import Derived.Test.YtblpdfgplifccaaPx0
import Derived.Test.YtblpdfgplifccaaHUp
import Derived.Test.YtblpdfgplifccaaHGuard
import Derived.Test.YtblpdfgplifccaaPFImplPartok
import Derived.Test.YtblpdfgplifccaaGFrom
import Derived.Test.YtblpdfgplifccaaPFImplClosed
import Derived.Test.YtblpdfgplifccaaHInside
import Derived.Test.YtblpdfgplifccaaHNet
import Derived.Test.YtblpdfgplifccaaHOver
import Derived.Test.YtblpdfgplifccaaHPart
namespace Go.Proofs.Ytblpdfgplifccaa.P
open Go.RowKit Go.Proofs.YtblpdfgplifccaaV.PrintWords Go.Proofs.YtblpdfgplifccaaV.PrintLast
set_option linter.unusedVariables false
set_option linter.unusedSimpArgs false

/-! ### impl_PartNear: function 53 -/
mutual
def impl_PartNear.j0 : Nat → List Int → Int → Int → Bool → Int → List (S33) → Option (Int)
 | 0, _, _, _, _, _, _ => none
 | k + 1, x1, x2, x3, x27, x102000, x102001 => if x27 = true then (some (-1)) else ((impl_Net_inside.f x102000 x102001 x1).bind fun bt107 => ((impl_Net_table.f k bt107.1 bt107.2).bind fun t111 => ((impl_Net_overlay.f k x102000 x102001 x1).bind fun t114 => ((impl_closed.f k t114).bind fun t117 => (if 0 ≤ x2 then (if x2 < (t111.length : Int) then (if 0 ≤ x3 then (if x3 < ((rd_L5 t111 x2).length : Int) then ((impl_Net_edges.f x102000 x102001 x1).bind fun t122 => (impl_PartNear.l0 k x1 x2 x3 t111 t117 (rd (rd_L5 t111 x2) x3) t122 (t122.length : Int) 0 x102000 x102001)) else (none)) else (none)) else (none)) else (none))))))
def impl_PartNear.l0 : Nat → List Int → Int → Int → List (List Int) → List (List Int) → Int → List Int → Int → Int → Int → List (S33) → Option (Int)
 | 0, _, _, _, _, _, _, _, _, _, _, _ => none
 | k + 1, x1, x2, x3, x9, x10, x11, x45, x46, x47, x102000, x102001 => if x47 < x46 then (if 0 ≤ x47 then (if x47 < (x45.length : Int) then ((impl_Net_edges.f x102000 x102001 x1).bind fun t126 => (impl_PartNear.l1 k x1 x2 x3 x9 x10 x11 (rd x45 x47) x45 x46 x47 t126 (t126.length : Int) 0 x102000 x102001)) else (none)) else (none)) else (some x11)
def impl_PartNear.l1 : Nat → List Int → Int → Int → List (List Int) → List (List Int) → Int → Int → List Int → Int → Int → List Int → Int → Int → Int → List (S33) → Option (Int)
 | 0, _, _, _, _, _, _, _, _, _, _, _, _, _, _, _ => none
 | k + 1, x1, x2, x3, x9, x10, x11, x13, x45, x46, x47, x53, x54, x55, x102000, x102001 => if x55 < x54 then (if 0 ≤ x55 then (if x55 < (x53.length : Int) then (if 0 ≤ x2 then (if x2 < (x9.length : Int) then (if 0 ≤ x13 then (if x13 < ((rd_L5 x9 x2).length : Int) then (if (rd (rd_L5 x9 x2) x13) = 99999 then (impl_PartNear.l1 k x1 x2 x3 x9 x10 x11 x13 x45 x46 x47 x53 x54 (wrap64 (x55 + 1)) x102000 x102001) else (if x13 < (x10.length : Int) then (if 0 ≤ (rd x53 x55) then (if (rd x53 x55) < ((rd_L5 x10 x13).length : Int) then (if (rd (rd_L5 x10 x13) (rd x53 x55)) = 99999 then (impl_PartNear.l1 k x1 x2 x3 x9 x10 x11 x13 x45 x46 x47 x53 x54 (wrap64 (x55 + 1)) x102000 x102001) else (if (rd x53 x55) < (x9.length : Int) then (if 0 ≤ x3 then (if x3 < ((rd_L5 x9 (rd x53 x55)).length : Int) then (if (rd (rd_L5 x9 (rd x53 x55)) x3) = 99999 then (impl_PartNear.l1 k x1 x2 x3 x9 x10 x11 x13 x45 x46 x47 x53 x54 (wrap64 (x55 + 1)) x102000 x102001) else (impl_PartNear.l1 k x1 x2 x3 x9 x10 (mn x11 (wrap64 ((wrap64 ((rd (rd_L5 x9 x2) x13) + (rd (rd_L5 x10 x13) (rd x53 x55)))) + (rd (rd_L5 x9 (rd x53 x55)) x3)))) x13 x45 x46 x47 x53 x54 (wrap64 (x55 + 1)) x102000 x102001)) else (none)) else (none)) else (none))) else (none)) else (none)) else (none))) else (none)) else (none)) else (none)) else (none)) else (none)) else (none)) else (impl_PartNear.l0 k x1 x2 x3 x9 x10 x11 x45 x46 (wrap64 (x47 + 1)) x102000 x102001)
end
def impl_PartNear.f (k : Nat) (a0_0 : Int) (l0_1 : List (S33)) (l1 : List Int) (a2 : Int) (a3 : Int) : Option (Int) := (impl_partOk.f a0_0 l0_1 l1).bind fun t102 => (if t102 = true then ((impl_Net_has.f a0_0 l0_1 (([a2, a3] : List Int))).bind fun t106 => (impl_PartNear.j0 k l1 a2 a3 (!t106) a0_0 l0_1)) else (impl_PartNear.j0 k l1 a2 a3 true a0_0 l0_1))
def impl_PartNear.T3 : Bool × List (List Nat × List Nat) := (true, [([], []), ([], []), ([0, 1], [0, 1]), ([2, 2], [2]), ([], []), ([], []), ([4, 5, 3], [4, 5]), ([6, 6], [6]), ([3, 7, 0, 1, 2, 3], [3]), ([7, 8, 0, 1, 2, 3, 4, 5, 6, 7, 8], [7])])
def impl_PartNear.B3 : List Nat := [0, 0, 3, 7, 0, 0, 63, 127, 255, 511]
theorem impl_PartNear.tab3 : rtab .any (opsOf Try.f53 3) = impl_PartNear.T3 := by kernel_rfl
theorem impl_PartNear.bits3 : waitsOk impl_PartNear.T3.2 impl_PartNear.B3 = true := by kernel_rfl
def impl_PartNear.T12 : Bool × List (List Nat × List Nat) := (true, [([], []), ([], []), ([], []), ([1, 2], [1, 2]), ([3], [3]), ([], []), ([4, 5], [4, 5]), ([6], [6]), ([], []), ([], []), ([8, 9], [8, 9]), ([10], [10]), ([], []), ([11, 12], [11, 12]), ([13], [13]), ([7, 14], [7, 14]), ([], []), ([], []), ([16, 17], [16, 17]), ([18], [18]), ([], []), ([19, 20], [19, 20]), ([21], [21]), ([15, 22], [15, 22]), ([0, 23], [0, 23]), ([24, 0, 1, 2, 3, 4, 5, 6, 7, 8, 9, 10, 11, 12, 13, 14, 15, 16, 17, 18, 19, 20, 21, 22, 23, 24], [0, 24])])
def impl_PartNear.B12 : List Nat := [0, 0, 0, 6, 14, 0, 62, 126, 0, 0, 768, 1792, 0, 7936, 16128, 32766, 0, 0, 196608, 458752, 0, 2031616, 4128768, 8388606, 16777215, 33554431]
theorem impl_PartNear.tab12 : rtab .any (opsOf Try.f53 12) = impl_PartNear.T12 := by kernel_rfl
theorem impl_PartNear.bits12 : waitsOk impl_PartNear.T12.2 impl_PartNear.B12 = true := by kernel_rfl
set_option maxHeartbeats 8000000 in
set_option maxRecDepth 100000 in
theorem impl_PartNear.calls (k : Nat) (a0_0 : Int) (A0_1 : Option Addr) (c0_1 : Nat) (l0_1 : List (S33)) (A1 : Option Addr) (c1 : Nat) (l1 : List Int) (a2 : Int) (a3 : Int) (r : Int) (w : World) (hr0_1 : Kd.C k33 w A0_1 l0_1.length l0_1) (hc0_1 : l0_1.length ≤ c0_1) (hr1 : Kd.C (Kd.int .i64) w A1 l1.length l1) (hc1 : l1.length ≤ c1) (h : impl_PartNear.f k a0_0 l0_1 l1 a2 a3 = some r) :
  Calls Try.prog 53 #[.agg #[.int .i64 a0_0, .slice A0_1 l0_1.length c0_1], .slice A1 l1.length c1, .int .i64 a2, .int .i64 a3] w fun e w' => e = .returned (.int .i64 r) ∧ Below w.heap.size w w' := by
 have hu25 := Try.underlying25
 have HR0_1 := Aside0.mk hr0_1
 have HC0_1 := Aside0.mk hc0_1
 clear hr0_1 hc0_1
 have HR1 := Aside0.mk hr1
 have HC1 := Aside0.mk hc1
 clear hr1 hc1
 have HB := Aside0.mk (Below.refl w.heap.size w)
 have H : ((impl_partOk.f a0_0 l0_1 l1).bind fun t102 => (if t102 = true then ((impl_Net_has.f a0_0 l0_1 (([a2, a3] : List Int))).bind fun t106 => (impl_PartNear.j0 k l1 a2 a3 (!t106) a0_0 l0_1)) else (impl_PartNear.j0 k l1 a2 a3 true a0_0 l0_1))) = some r := h
 clear h
 have HC5 := Aside0.mk H
 clear H
 go_enter Try.func53, Try.ntmps53
 go_upto_region 1 with (first | ((with_reducible refine gate_dst (N := 4) rfl ?_); refine be (cs := #[.int .i64 a0_0, .slice A0_1 l0_1.length c0_1]) (t := 25) ?_; intro gb101 hg w6 hbox hb; have BK101 := Aside0.mk (hbox); have GW101 := gz w hg (uB0 HB); have GE101 := gz w hg (uB0 HB); replace HB := Aside0.mk (below_step (uB0 HB) hb); clear hb hbox hg))
 (try simp only [Act.put, List.setIfInBounds_toArray, List.set_cons_zero, List.set_cons_succ])
 go_cut [27] (fun v27 wc => ∃ (kq : Nat) (x27_4 : Bool), v27 = .bool x27_4 ∧ Aside0 (impl_PartNear.j0 kq l1 a2 a3 x27_4 a0_0 l0_1 = some r) ∧ Aside0 (kq ≤ k) ∧ Aside0 (wc.heap[gb101]? = some (.cells #[.int .i64 a0_0, (.slice A0_1 l0_1.length c0_1)] 25 (0, 0))) ∧ Aside0 (Below w.heap.size w wc))
 case first =>
  have H := HC5.out; clear HC5; replace H := Option.bind_eq_some_iff.mp H; obtain ⟨t102, A70, H⟩ := H; replace H : (if t102 = true then ((impl_Net_has.f a0_0 l0_1 (([a2, a3] : List Int))).bind fun t106 => (impl_PartNear.j0 k l1 a2 a3 (!t106) a0_0 l0_1)) else (impl_PartNear.j0 k l1 a2 a3 true a0_0 l0_1)) = some r := H; have A7 := Aside0.mk A70; clear A70; by_cases c8 : t102 = true
  ·
   subst c8; rw [if_pos rfl] at H; obtain ⟨y103, hy103⟩ : ∃ y_ : List Int, y_ = (([a2, a3] : List Int)) := ⟨_, rfl⟩
   replace H : ((impl_Net_has.f a0_0 l0_1 y103).bind fun t106 => (impl_PartNear.j0 k l1 a2 a3 (!t106) a0_0 l0_1)) = some r := by first | (rw [hy103]; with_reducible exact H) | (have H2_ := (Option.bind_some _ _).symm.trans H; rw [hy103]; with_reducible exact H2_) | (have H2_ := (Option.bind_some _ _).symm.trans H; with_reducible exact H2_) | with_reducible exact H | (rw [hy103]; exact H) | exact H
   have Ny103 := Aside0.mk hy103; clear hy103; replace H := Option.bind_eq_some_iff.mp H; obtain ⟨t106, A90, H⟩ := H; replace H : (impl_PartNear.j0 k l1 a2 a3 (!t106) a0_0 l0_1) = some r := H; have A9 := Aside0.mk A90; clear A90; have H' := Aside0.mk H; clear H; obtain ⟨hcz10_0, hcz10_1, hfz10_0, hfz10_1⟩ := bc2 BK101; go_wp2_with (first | ((with_reducible refine gate_callee (f := 68) rfl ?_); refine goesL_ (some 18) rfl rfl Try.func68 (by kernel_rfl) rfl #[.agg #[.int .i64 a0_0, .slice A0_1 l0_1.length c0_1], .slice A1 l1.length c1] rfl ul ?_; (with_reducible refine (impl_partOk.calls a0_0 _ _ l0_1 _ _ l1 true _ ?side1 ?side2 ?side3 ?side4 A7.out).mono ?_); (case side1 => exact uC HR0_1 HB); (case side2 => exact HC0_1.out); (case side3 => exact uC HR1 HB); (case side4 => exact HC1.out); rintro e w11 ⟨rfl, hb⟩; refine ⟨_, rfl, ?_⟩; replace BK101 := bb BK101 hb; replace HB := Aside0.mk (below_step (uB1 HB GE101.out) hb); (try clear hb); (try clear hb2); (try clear hk); (try clear hi); obtain ⟨hcz12_0, hcz12_1, hfz12_0, hfz12_1⟩ := bc2 BK101) | ((with_reducible refine gate_dst (N := 24) rfl ?_); refine Kd.R_litW (Kd.int .i64) _ 3 ?hg (N := 24) ?hd (xs := ([a2, a3] : List Int)) (inner := [.int .i64 a2, .int .i64 a3]) (ok := fun _ => True) (okp := fun _ => True) ?hr ?hp (fun _ hk => hk) trivial (Below.refl _ _) (Nat.le_refl _) (by simp) ?_; (case hd => rfl); (case hg => rfl); (case hr => first | (go_simp; done) | (go_simp; rfl)); (case hp => exact (Reps.one (show Kd.M (Kd.int .i64) _ _ _ a2 [.int .i64 a2] from rfl) (Reps.one (show Kd.M (Kd.int .i64) _ _ _ a3 [.int .i64 a3] from rfl) (Reps.none _ _)))); intro v104 w13 ho14 hb hg_ hnew_; clear hg_ hnew_; (first | rw [← Ny103.out] at ho14 | (simp only [Int.reduceToNat] at ho14; rw [← Ny103.out] at ho14)); have HO105 := Aside0.mk (Kd.R_lower ho14 (below_size (uB1 HB GE101.out))); replace BK101 := bb BK101 hb; replace HB := Aside0.mk (below_step (uB1 HB GE101.out) hb); clear hb ho14; obtain ⟨Ao15, co15, eo15⟩ := Kd.R_slice HO105.out; subst eo15) | (go_at_call 66; (with_reducible refine (impl_Net_has.calls a0_0 _ _ l0_1 _ _ y103 t106 _ ?side1 ?side2 ?side3 ?side4 A9.out).mono ?_); (case side1 => exact uC HR0_1 HB); (case side2 => exact HC0_1.out); (case side3 => exact uD (Kd.R_reads' HO105.out).2.2); (case side4 => exact (Kd.R_reads' HO105.out).2.1); rintro e w16 ⟨rfl, hb⟩; replace HO105 := Aside0.mk (Kd.R_below (ur HO105) hb); replace BK101 := bb BK101 hb; replace HB := Aside0.mk (below_step (uB1 HB GE101.out) hb); (try clear hb); (try clear hb2); (try clear hk); (try clear hi))); go_meet
   case rel => exact ⟨_, (!t106), ue, H', ⟨by first | omega | exact Nat.le_refl _⟩, ⟨ub BK101⟩, ⟨uB1 HB GE101.out⟩⟩
  ·
   replace c8 := Bool.eq_false_iff.mpr c8; subst c8; rw [if_neg (show ¬ (false = true) by decide)] at H; have H' := Aside0.mk H; clear H; obtain ⟨hcz17_0, hcz17_1, hfz17_0, hfz17_1⟩ := bc2 BK101; go_wp2_with (first | ((with_reducible refine gate_callee (f := 68) rfl ?_); refine goesL_ (some 18) rfl rfl Try.func68 (by kernel_rfl) rfl #[.agg #[.int .i64 a0_0, .slice A0_1 l0_1.length c0_1], .slice A1 l1.length c1] rfl ul ?_; (with_reducible refine (impl_partOk.calls a0_0 _ _ l0_1 _ _ l1 false _ ?side1 ?side2 ?side3 ?side4 A7.out).mono ?_); (case side1 => exact uC HR0_1 HB); (case side2 => exact HC0_1.out); (case side3 => exact uC HR1 HB); (case side4 => exact HC1.out); rintro e w18 ⟨rfl, hb⟩; refine ⟨_, rfl, ?_⟩; replace BK101 := bb BK101 hb; replace HB := Aside0.mk (below_step (uB1 HB GE101.out) hb); (try clear hb); (try clear hb2); (try clear hk); (try clear hi))); go_meet
   case rel => exact ⟨_, (true), ue, H', ⟨by first | omega | exact Nat.le_refl _⟩, ⟨ub BK101⟩, ⟨uB1 HB GE101.out⟩⟩
 case rest =>
  clear HC5; try clear c1
  try clear p2
  try clear c5
  try clear c6
  try clear c8
  try clear hcz10_0 hcz10_1
  try clear hcz12_0 hcz12_1
  try clear hcz17_0 hcz17_1
  try clear hfz10_0 hfz10_1
  try clear hfz12_0 hfz12_1
  try clear hfz17_0 hfz17_1
  obtain ⟨kq, x27_4, rfl, HA, HJ4, BK101, HB⟩ := hcut
  cases kq with
  | zero => exact absurd HA.out (by simp [impl_PartNear.j0])
  | succ kj4 =>
   have H := HA.out; clear HA; simp only [impl_PartNear.j0] at H; by_cases c19 : x27_4 = true
   ·
    subst c19; rw [if_pos rfl] at H; obtain rfl := Option.some.inj H; go_wp2; go_ret; exact ⟨ux, uB1 HB GE101.out⟩
   ·
    replace c19 := Bool.eq_false_iff.mpr c19; subst c19; rw [if_neg (show ¬ (false = true) by decide)] at H; replace H := Option.bind_eq_some_iff.mp H; obtain ⟨⟨t107, t108⟩, A200, H⟩ := H; replace H : ((impl_Net_table.f kj4 t107 t108).bind fun t111 => ((impl_Net_overlay.f kj4 a0_0 l0_1 l1).bind fun t114 => ((impl_closed.f kj4 t114).bind fun t117 => (if 0 ≤ a2 then (if a2 < (t111.length : Int) then (if 0 ≤ a3 then (if a3 < ((rd_L5 t111 a2).length : Int) then ((impl_Net_edges.f a0_0 l0_1 l1).bind fun t122 => (impl_PartNear.l0 kj4 l1 a2 a3 t111 t117 (rd (rd_L5 t111 a2) a3) t122 (t122.length : Int) 0 a0_0 l0_1)) else (none)) else (none)) else (none)) else (none))))) = some r := H; have A20 := Aside0.mk A200; clear A200; replace H := Option.bind_eq_some_iff.mp H; obtain ⟨t111, A210, H⟩ := H; replace H : ((impl_Net_overlay.f kj4 a0_0 l0_1 l1).bind fun t114 => ((impl_closed.f kj4 t114).bind fun t117 => (if 0 ≤ a2 then (if a2 < (t111.length : Int) then (if 0 ≤ a3 then (if a3 < ((rd_L5 t111 a2).length : Int) then ((impl_Net_edges.f a0_0 l0_1 l1).bind fun t122 => (impl_PartNear.l0 kj4 l1 a2 a3 t111 t117 (rd (rd_L5 t111 a2) a3) t122 (t122.length : Int) 0 a0_0 l0_1)) else (none)) else (none)) else (none)) else (none)))) = some r := H; have A21 := Aside0.mk A210; clear A210; replace H := Option.bind_eq_some_iff.mp H; obtain ⟨t114, A220, H⟩ := H; replace H : ((impl_closed.f kj4 t114).bind fun t117 => (if 0 ≤ a2 then (if a2 < (t111.length : Int) then (if 0 ≤ a3 then (if a3 < ((rd_L5 t111 a2).length : Int) then ((impl_Net_edges.f a0_0 l0_1 l1).bind fun t122 => (impl_PartNear.l0 kj4 l1 a2 a3 t111 t117 (rd (rd_L5 t111 a2) a3) t122 (t122.length : Int) 0 a0_0 l0_1)) else (none)) else (none)) else (none)) else (none))) = some r := H; have A22 := Aside0.mk A220; clear A220; replace H := Option.bind_eq_some_iff.mp H; obtain ⟨t117, A230, H⟩ := H; replace H : (if 0 ≤ a2 then (if a2 < (t111.length : Int) then (if 0 ≤ a3 then (if a3 < ((rd_L5 t111 a2).length : Int) then ((impl_Net_edges.f a0_0 l0_1 l1).bind fun t122 => (impl_PartNear.l0 kj4 l1 a2 a3 t111 t117 (rd (rd_L5 t111 a2) a3) t122 (t122.length : Int) 0 a0_0 l0_1)) else (none)) else (none)) else (none)) else (none)) = some r := H; have A23 := Aside0.mk A230; clear A230; by_cases c24 : 0 ≤ a2
    ·
     rw [if_pos c24] at H; have c24b0 := de c24; clear c24; by_cases c25 : a2 < (t111.length : Int)
     ·
      rw [if_pos c25] at H; have c25b0 := dl c25; clear c25; by_cases c26 : 0 ≤ a3
      ·
       rw [if_pos c26] at H; have c26b0 := de c26; clear c26; by_cases c27 : a3 < ((rd_L5 t111 a2).length : Int)
       ·
        rw [if_pos c27] at H; have c27b0 := dl c27; clear c27; replace H := Option.bind_eq_some_iff.mp H; obtain ⟨t122, A280, H⟩ := H; replace H : (impl_PartNear.l0 kj4 l1 a2 a3 t111 t117 (rd (rd_L5 t111 a2) a3) t122 (t122.length : Int) 0 a0_0 l0_1) = some r := H; have A28 := Aside0.mk A280; clear A280; have H' := Aside0.mk H; clear H; try go_wp2
        replace BK101 := Aside0.mk (blk_drew BK101.out); replace HB := Aside0.mk (below_drew1 HB.out); refine start_ (n := 10) (S := fun w' => w'.cell? ⟨gb101, 0, none⟩ = some (.int .i64 a0_0) ∧ w'.cell? ⟨gb101, 1, none⟩ = some (.slice A0_1 l0_1.length c0_1)) (ds := []) (zt 10 0) (by kernel_rfl) rfl (by kernel_rfl) (b2_ BK101) (fun hHeld => ?_); refine with_tabW impl_PartNear.tab3 impl_PartNear.bits3 (fun HT_ HW_ => ?_); generalize wc.drew = w29 at BK101 HB hHeld ⊢; refine qz HT_ 1 ?_; refine qz HT_ 5 ?_; refine qt HT_ HW_ hHeld 0 ?_; refine qt HT_ HW_ hHeld 4 ?_; refine qo HT_ 2 (fun K hK => ?_); refine goes_ Try.func69 (by kernel_rfl) rfl #[.agg #[.int .i64 a0_0, .slice A0_1 l0_1.length c0_1], .slice A1 l1.length c1] (by rfl) rfl rfl ul ?_; with_reducible refine (impl_Net_inside.calls a0_0 _ _ l0_1 _ _ l1 t107 t108 _ ?side1 ?side2 ?side3 ?side4 A20.out).mono ?_
        (case side1 => exact uC HR0_1 HB); (case side2 => exact HC0_1.out); (case side3 => exact uC HR1 HB); (case side4 => exact HC1.out); rintro e w30 ⟨v109, rfl, ho0, hb⟩; refine ⟨_, rfl, ?_⟩; have HO110 := Aside0.mk (Kd.R_lower ho0 (below_size (uB1 HB GE101.out))); replace BK101 := bb BK101 hb; replace HB := Aside0.mk (below_step (uB1 HB GE101.out) hb); (try clear hb); (try clear hb2); (try clear hk); (try clear hi); (try clear ho0); obtain ⟨Ao31, co31, eo31⟩ := Kd.R_slice HO110.out; (first | subst eo31 | (injection eo31 with f1_ f2_ f3_; have f4_ := f1_.symm; have f5_ := f3_.symm; clear f1_ f2_ f3_; subst f4_; subst f5_)); refine hK.out _ _ (b2_ BK101) (fun hHeld => ?_); clear hK K; refine nz ?_
        refine qo HT_ 3 (fun K hK => ?_); refine goes_ Try.func81 (by kernel_rfl) rfl #[.agg #[.int .i64 t107, .slice Ao31 t108.length co31]] (by rfl) rfl rfl ul ?_; with_reducible refine (impl_Net_table.calls kj4 t107 _ _ t108 t111 _ ?side1 ?side2 A21.out).mono ?_
        (case side1 => exact uD (Kd.R_reads' HO110.out).2.2); (case side2 => exact (Kd.R_reads' HO110.out).2.1); rintro e w32 ⟨v112, rfl, ho0, hb⟩; refine ⟨_, rfl, ?_⟩; replace HO110 := Aside0.mk (Kd.R_below (ur HO110) hb); have HO113 := Aside0.mk (Kd.S_lower ho0 (below_size (uB1 HB GE101.out))); replace BK101 := bb BK101 hb; replace HB := Aside0.mk (below_step (uB1 HB GE101.out) hb); (try clear hb); (try clear hb2); (try clear hk); (try clear hi); (try clear ho0); refine hK.out _ _ (b2_ BK101) (fun hHeld => ?_); clear hK K; refine nz ?_
        refine qo HT_ 6 (fun K hK => ?_); refine goes_ Try.func90 (by kernel_rfl) rfl #[.agg #[.int .i64 a0_0, .slice A0_1 l0_1.length c0_1], .slice A1 l1.length c1] (by rfl) rfl rfl ul ?_; with_reducible refine (impl_Net_overlay.calls kj4 a0_0 _ _ l0_1 _ _ l1 t114 _ ?side1 ?side2 ?side3 ?side4 A22.out).mono ?_
        (case side1 => exact uC HR0_1 HB); (case side2 => exact HC0_1.out); (case side3 => exact uC HR1 HB); (case side4 => exact HC1.out); rintro e w33 ⟨v115, rfl, ho0, hb⟩; refine ⟨_, rfl, ?_⟩; replace HO110 := Aside0.mk (Kd.R_below (ur HO110) hb); have HO116 := Aside0.mk (Kd.S_lower (Kd.S_new' ho0 (Kd.S_lt (by (with_reducible repeat (first | apply Kd.S_alloc | apply Kd.S_drewN | apply Kd.S_drew)); exact HO113.out))) (below_size (uB1 HB GE101.out))); replace HO113 := Aside0.mk (Kd.S_elder' (by (with_reducible repeat (first | apply Kd.S_alloc | apply Kd.S_drewN | apply Kd.S_drew)); exact HO113.out) (Kd.S_base ho0) hb); replace BK101 := bb BK101 hb; replace HB := Aside0.mk (below_step (uB1 HB GE101.out) hb); (try clear hb); (try clear hb2); (try clear hk); (try clear hi); (try clear ho0); obtain ⟨Ao34, co34, eo34⟩ := Kd.S_slice HO116.out; (first | subst eo34 | (injection eo34 with f1_ f2_ f3_; have f4_ := f1_.symm; have f5_ := f3_.symm; clear f1_ f2_ f3_; subst f4_; subst f5_)); refine hK.out _ _ (b2_ BK101) (fun hHeld => ?_); clear hK K; refine nz ?_
        refine qo HT_ 7 (fun K hK => ?_); refine goes_ Try.func94 (by kernel_rfl) rfl #[.slice Ao34 t114.length co34] (by rfl) rfl rfl ul ?_; with_reducible refine (impl_closed.calls kj4 _ _ t114 t117 _ ?side1 ?side2 A23.out).mono ?_
        (case side1 => repeat (first | exact (Kd.S_reads' HO116.out).2.2 | (with_reducible refine Kd.C_alloc ?_ _) | (with_reducible refine Kd.C_drewN ?_ _) | (with_reducible refine Kd.C_drew ?_))); (case side2 => exact (Kd.S_reads' HO116.out).2.1); rintro e w35 ⟨v118, rfl, ho0, hb⟩; refine ⟨_, rfl, ?_⟩; replace HO110 := Aside0.mk (Kd.R_below (ur HO110) hb); have HO119 := Aside0.mk (Kd.S_lower (Kd.S_new' (Kd.S_new' ho0 (Kd.S_lt (by (with_reducible repeat (first | apply Kd.S_alloc | apply Kd.S_drewN | apply Kd.S_drew)); exact HO113.out))) (Kd.S_lt (by (with_reducible repeat (first | apply Kd.S_alloc | apply Kd.S_drewN | apply Kd.S_drew)); exact HO116.out))) (below_size (uB1 HB GE101.out))); replace HO113 := Aside0.mk (Kd.S_elder' (by (with_reducible repeat (first | apply Kd.S_alloc | apply Kd.S_drewN | apply Kd.S_drew)); exact HO113.out) (Kd.S_base ho0) hb); replace HO116 := Aside0.mk (Kd.S_elder' (by (with_reducible repeat (first | apply Kd.S_alloc | apply Kd.S_drewN | apply Kd.S_drew)); exact HO116.out) (Kd.S_base ho0) hb); replace BK101 := bb BK101 hb; replace HB := Aside0.mk (below_step (uB1 HB GE101.out) hb); (try clear hb); (try clear hb2); (try clear hk); (try clear hi); (try clear ho0); refine hK.out _ _ (b2_ BK101) (fun hHeld => ?_); clear hK K; refine nz ?_
        refine qz HT_ 8 ?_; refine qz HT_ 9 ?_; refine done_ (done_of HT_.out (by kernel_rfl)) ?_; obtain ⟨Ao36, co36, eo36⟩ := Kd.S_slice HO113.out; subst eo36; have p120 : 0 ≤ (a2 : Int) := ua; have q120 : a2 < (t111.length : Int) := ua; obtain ⟨ad120, A120_0, c120_0, e120, hx120_0, hl120_0, hi120_0⟩ := at_L5 (Kd.S_reads' HO113.out).2.2 a2 p120 q120
        cases e120
        obtain ⟨ce120, hce120, hMe120, hcc120⟩ := Kd.S_get HO113.out [] a2 p120 (by first | exact q120 | exact ua | (have e_ := (Kd.S_reads' HO113.out).1; omega)); obtain ⟨ve120_0, rfl, ge120_0⟩ := hMe120; have hv120_0 := hcc120 0 _ rfl; rw [Nat.add_zero, show ((Kd.slice 3 (Kd.int .i64))).sz = 1 from rfl, Nat.mul_one] at hv120_0; replace hv120_0 := Option.some.inj (hv120_0.symm.trans hx120_0); rw [hv120_0] at ge120_0; have HL120_0 := Aside0.mk (show Kd.R (Kd.int .i64) 3 _ _ _ _ (rd_L5 t111 a2) from ge120_0); clear hv120_0 ge120_0; clear hcc120 hce120; have HR120_0 := Aside0.mk hi120_0; have HC120_0 := Aside0.mk hl120_0; clear hi120_0 hl120_0; replace p120 := eq_true p120; replace q120 := eq_true q120; have p121 : 0 ≤ (a3 : Int) := ua; have q121 : a3 < ((rd_L5 t111 a2).length : Int) := ua; obtain ⟨ad121, e121, hx121_0⟩ := Kd.at_int (by repeat (first | (with_reducible exact HR120_0.out) | (with_reducible refine Kd.C_alloc ?_ _) | (with_reducible refine Kd.C_drewN ?_ _) | (with_reducible refine Kd.C_drew ?_) | exact HR120_0.out)) a3 p121 q121
        cases e121
        replace p121 := eq_true p121; replace q121 := eq_true q121; obtain ⟨hcz37_0, hcz37_1, hfz37_0, hfz37_1⟩ := bc2 BK101; try go_wp2_with (first | ((with_reducible refine gate_callee (f := 76) rfl ?_); refine goesL_ (some 45) rfl rfl Try.func76 (by kernel_rfl) rfl #[.agg #[.int .i64 a0_0, .slice A0_1 l0_1.length c0_1], .slice A1 l1.length c1] rfl ul ?_; (with_reducible refine (impl_Net_edges.calls a0_0 _ _ l0_1 _ _ l1 t122 _ ?side1 ?side2 ?side3 ?side4 A28.out).mono ?_); (case side1 => exact uC HR0_1 HB); (case side2 => exact HC0_1.out); (case side3 => exact uC HR1 HB); (case side4 => exact HC1.out); rintro e w38 ⟨v123, rfl, ho0, hb⟩; refine ⟨_, rfl, ?_⟩; replace HO110 := Aside0.mk (Kd.R_below (ur HO110) hb); replace HO113 := Aside0.mk (Kd.S_elder' (by (with_reducible repeat (first | apply Kd.S_alloc | apply Kd.S_drewN | apply Kd.S_drew)); exact HO113.out) (Kd.R_base ho0) hb); replace HO116 := Aside0.mk (Kd.S_elder' (by (with_reducible repeat (first | apply Kd.S_alloc | apply Kd.S_drewN | apply Kd.S_drew)); exact HO116.out) (Kd.R_base ho0) hb); replace HO119 := Aside0.mk (Kd.S_elder' (by (with_reducible repeat (first | apply Kd.S_alloc | apply Kd.S_drewN | apply Kd.S_drew)); exact HO119.out) (Kd.R_base ho0) hb); have HO124 := Aside0.mk (Kd.R_lower (Kd.R_new' ho0 (Kd.R_lt (ur HL120_0))) (below_size (uB1 HB GE101.out))); replace HL120_0 := Aside0.mk (Kd.R_elder' (ur HL120_0) (Kd.R_base ho0) hb); replace BK101 := bb BK101 hb; replace HR120_0 := Aside0.mk (Kd.C_below (by repeat (first | (with_reducible exact HR120_0.out) | (with_reducible refine Kd.C_alloc ?_ _) | (with_reducible refine Kd.C_drewN ?_ _) | (with_reducible refine Kd.C_drew ?_) | exact HR120_0.out)) hb); replace HB := Aside0.mk (below_step (uB1 HB GE101.out) hb); (try clear hb); (try clear hb2); (try clear hk); (try clear hi); (try clear ho0); obtain ⟨Ao39, co39, eo39⟩ := Kd.R_slice HO124.out; subst eo39))
        go_loopg [11, 47] kj4 (fun kq v11 v47 w' => ∃ (x11_2 : Int) (x47_2 : Int), v11 = .int .i64 x11_2 ∧ v47 = .int .i64 x47_2 ∧ Aside0 (impl_PartNear.l0 kq l1 a2 a3 t111 t117 x11_2 t122 (t122.length : Int) x47_2 a0_0 l0_1 = some r) ∧ Aside0 (kq ≤ kj4) ∧ Aside0 (Kd.S (Kd.slice 3 (Kd.int .i64)) 26 w' w.heap.size (fun k_ => some k_ ≠ (v118 : Value).ownBlock ∧ some k_ ≠ ((.slice Ao39 t122.length co39) : Value).ownBlock) (.slice (some ad120) t111.length co36) t111) ∧ Aside0 (Kd.S (Kd.slice 3 (Kd.int .i64)) 26 w' w.heap.size (fun k_ => some k_ ≠ ((.slice (some ad120) t111.length co36) : Value).ownBlock ∧ some k_ ≠ ((.slice Ao39 t122.length co39) : Value).ownBlock) v118 t117) ∧ Aside0 (Kd.R (Kd.int .i64) 3 w' w.heap.size (fun _ => True) (.slice Ao39 t122.length co39) t122) ∧ Aside0 (w'.heap[gb101]? = some (.cells #[.int .i64 a0_0, (.slice A0_1 l0_1.length c0_1)] 25 (0, 0))) ∧ Aside0 (Kd.C (Kd.int .i64) w' (some ad121) (rd_L5 t111 a2).length (rd_L5 t111 a2)) ∧ Aside0 (Below w.heap.size w w'))
        case atStart => exact ⟨(rd (rd_L5 t111 a2) a3), (0), ue, ue, H', ⟨Nat.le_refl _⟩, ⟨by (with_reducible repeat (first | apply Kd.S_alloc | apply Kd.S_drewN | apply Kd.S_drew)); exact Kd.S_mono HO113.out (fun _ hk => ⟨hk.1.2, hk.2⟩)⟩, ⟨by (with_reducible repeat (first | apply Kd.S_alloc | apply Kd.S_drewN | apply Kd.S_drew)); exact Kd.S_mono HO119.out (fun _ hk => ⟨hk.1.1.2, hk.2⟩)⟩, ⟨by (with_reducible repeat (first | apply Kd.R_alloc | apply Kd.R_drewN | apply Kd.R_drew)); exact Kd.R_mono HO124.out (fun _ hk => trivial)⟩, ⟨ub BK101⟩, ⟨by repeat (first | (with_reducible exact HR120_0.out) | (with_reducible refine Kd.C_alloc ?_ _) | (with_reducible refine Kd.C_drewN ?_ _) | (with_reducible refine Kd.C_drew ?_) | exact HR120_0.out)⟩, ⟨uB1 HB GE101.out⟩⟩
        case round =>
         clear H'; try clear c1
         try clear p1
         try clear q1
         try clear hx1
         try clear c2
         try clear p2
         try clear c5
         try clear c6
         try clear c7
         try clear c8
         try clear c9
         try clear c12
         try clear p12
         try clear q12
         try clear hx12
         try clear c19
         try clear c24
         try clear c24b0
         try clear c25
         try clear c25b0
         try clear c26
         try clear c26b0
         try clear c27
         try clear c27b0
         try clear hcz10_0 hcz10_1
         try clear hcz12_0 hcz12_1
         try clear hcz17_0 hcz17_1
         try clear hcz37_0 hcz37_1
         try clear hfz10_0 hfz10_1
         try clear hfz12_0 hfz12_1
         try clear hfz17_0 hfz17_1
         try clear hfz37_0 hfz37_1
         try clear hx120_0
         try clear hx121_0
         try clear p120
         try clear p121
         try clear p2
         try clear q120
         try clear q121
         obtain ⟨x11_2, x47_2, rfl, rfl, HA, HK2, HO_9, HO_10, HO_45, BK101, HR120_0, HB⟩ := hrel
         cases gk with
         | zero => exact absurd HA.out (by simp [impl_PartNear.l0])
         | succ k2 =>
          have H := HA.out; clear HA; simp only [impl_PartNear.l0] at H; by_cases c40 : x47_2 < (t122.length : Int)
          ·
           rw [if_pos c40] at H; have c40b0 := dl c40; clear c40; by_cases c41 : 0 ≤ x47_2
           ·
            rw [if_pos c41] at H; have c41b0 := de c41; clear c41; by_cases c42 : x47_2 < (t122.length : Int)
            ·
             rw [if_pos c42] at H; have c42b0 := dl c42; clear c42; replace H := Option.bind_eq_some_iff.mp H; obtain ⟨t126, A430, H⟩ := H; replace H : (impl_PartNear.l1 k2 l1 a2 a3 t111 t117 x11_2 (rd t122 x47_2) t122 (t122.length : Int) x47_2 t126 (t126.length : Int) 0 a0_0 l0_1) = some r := H; have A43 := Aside0.mk A430; clear A430; have H' := Aside0.mk H; clear H; have p125 : 0 ≤ (x47_2 : Int) := ua; have q125 : x47_2 < (t122.length : Int) := ua; obtain ⟨ad125, e125, hx125_0⟩ := Kd.at_int (Kd.R_reads' HO_45.out).2.2 x47_2 p125 q125
             cases e125
             replace p125 := eq_true p125; replace q125 := eq_true q125; obtain ⟨hcz44_0, hcz44_1, hfz44_0, hfz44_1⟩ := bc2 BK101; go_wp2_with (first | ((with_reducible refine gate_callee (f := 76) rfl ?_); refine goesL_ (some 53) rfl rfl Try.func76 (by kernel_rfl) rfl #[.agg #[.int .i64 a0_0, .slice A0_1 l0_1.length c0_1], .slice A1 l1.length c1] rfl ul ?_; (with_reducible refine (impl_Net_edges.calls a0_0 _ _ l0_1 _ _ l1 t126 _ ?side1 ?side2 ?side3 ?side4 A43.out).mono ?_); (case side1 => exact uC HR0_1 HB); (case side2 => exact HC0_1.out); (case side3 => exact uC HR1 HB); (case side4 => exact HC1.out); rintro e w45 ⟨v127, rfl, ho0, hb⟩; refine ⟨_, rfl, ?_⟩; replace HO_9 := Aside0.mk (Kd.S_elder' (by (with_reducible repeat (first | apply Kd.S_alloc | apply Kd.S_drewN | apply Kd.S_drew)); exact HO_9.out) (Kd.R_base ho0) hb); replace HO_10 := Aside0.mk (Kd.S_elder' (by (with_reducible repeat (first | apply Kd.S_alloc | apply Kd.S_drewN | apply Kd.S_drew)); exact HO_10.out) (Kd.R_base ho0) hb); have HO128 := Aside0.mk (Kd.R_lower (Kd.R_new' ho0 (Kd.R_lt (ur HO_45))) (below_size (uB1 HB GE101.out))); replace HO_45 := Aside0.mk (Kd.R_elder' (ur HO_45) (Kd.R_base ho0) hb); replace BK101 := bb BK101 hb; replace HR120_0 := Aside0.mk (Kd.C_below (by repeat (first | (with_reducible exact HR120_0.out) | (with_reducible refine Kd.C_alloc ?_ _) | (with_reducible refine Kd.C_drewN ?_ _) | (with_reducible refine Kd.C_drew ?_) | exact HR120_0.out)) hb); replace HB := Aside0.mk (below_step (uB1 HB GE101.out) hb); (try clear hb); (try clear hb2); (try clear hk); (try clear hi); (try clear ho0); obtain ⟨Ao46, co46, eo46⟩ := Kd.R_slice HO128.out; subst eo46)); go_loopg [11, 55] k2 (fun kq v11 v55 w' => ∃ (x11_3 : Int) (x55_3 : Int), v11 = .int .i64 x11_3 ∧ v55 = .int .i64 x55_3 ∧ Aside0 (impl_PartNear.l1 kq l1 a2 a3 t111 t117 x11_3 (rd t122 x47_2) t122 (t122.length : Int) x47_2 t126 (t126.length : Int) x55_3 a0_0 l0_1 = some r) ∧ Aside0 (kq ≤ k2) ∧ Aside0 (Kd.S (Kd.slice 3 (Kd.int .i64)) 26 w' w.heap.size (fun k_ => some k_ ≠ (v118 : Value).ownBlock ∧ some k_ ≠ ((.slice (some ad125) t122.length co39) : Value).ownBlock ∧ some k_ ≠ ((.slice Ao46 t126.length co46) : Value).ownBlock) (.slice (some ad120) t111.length co36) t111) ∧ Aside0 (Kd.S (Kd.slice 3 (Kd.int .i64)) 26 w' w.heap.size (fun k_ => some k_ ≠ ((.slice (some ad120) t111.length co36) : Value).ownBlock ∧ some k_ ≠ ((.slice (some ad125) t122.length co39) : Value).ownBlock ∧ some k_ ≠ ((.slice Ao46 t126.length co46) : Value).ownBlock) v118 t117) ∧ Aside0 (Kd.R (Kd.int .i64) 3 w' w.heap.size (fun k_ => some k_ ≠ ((.slice Ao46 t126.length co46) : Value).ownBlock) (.slice (some ad125) t122.length co39) t122) ∧ Aside0 (Kd.R (Kd.int .i64) 3 w' w.heap.size (fun k_ => some k_ ≠ ((.slice (some ad125) t122.length co39) : Value).ownBlock) (.slice Ao46 t126.length co46) t126) ∧ Aside0 (w'.heap[gb101]? = some (.cells #[.int .i64 a0_0, (.slice A0_1 l0_1.length c0_1)] 25 (0, 0))) ∧ Aside0 (Kd.C (Kd.int .i64) w' (some ad121) (rd_L5 t111 a2).length (rd_L5 t111 a2)) ∧ Aside0 (Below w.heap.size w w'))
             case atStart => exact ⟨(x11_2), (0), ue, ue, H', ⟨Nat.le_refl _⟩, ⟨by (with_reducible repeat (first | apply Kd.S_alloc | apply Kd.S_drewN | apply Kd.S_drew)); exact Kd.S_mono HO_9.out (fun _ hk => ⟨hk.1.1, ⟨hk.1.2, hk.2⟩⟩)⟩, ⟨by (with_reducible repeat (first | apply Kd.S_alloc | apply Kd.S_drewN | apply Kd.S_drew)); exact Kd.S_mono HO_10.out (fun _ hk => ⟨hk.1.1, ⟨hk.1.2, hk.2⟩⟩)⟩, ⟨by (with_reducible repeat (first | apply Kd.R_alloc | apply Kd.R_drewN | apply Kd.R_drew)); exact Kd.R_mono HO_45.out (fun _ hk => hk.2)⟩, ⟨by (with_reducible repeat (first | apply Kd.R_alloc | apply Kd.R_drewN | apply Kd.R_drew)); exact Kd.R_mono HO128.out (fun _ hk => hk.2)⟩, ⟨ub BK101⟩, ⟨by repeat (first | (with_reducible exact HR120_0.out) | (with_reducible refine Kd.C_alloc ?_ _) | (with_reducible refine Kd.C_drewN ?_ _) | (with_reducible refine Kd.C_drew ?_) | exact HR120_0.out)⟩, ⟨uB1 HB GE101.out⟩⟩
             case round =>
              clear H'; try clear c1
              try clear p1
              try clear q1
              try clear hx1
              try clear c2
              try clear p2
              try clear c4
              try clear c5
              try clear c6
              try clear c7
              try clear c8
              try clear c9
              try clear c12
              try clear p12
              try clear q12
              try clear hx12
              try clear c19
              try clear c24
              try clear c24b0
              try clear c25
              try clear c25b0
              try clear c26
              try clear c26b0
              try clear c27
              try clear c27b0
              try clear c40
              try clear c40b0
              try clear c41
              try clear c41b0
              try clear c42
              try clear c42b0
              try clear hcz10_0 hcz10_1
              try clear hcz12_0 hcz12_1
              try clear hcz17_0 hcz17_1
              try clear hcz37_0 hcz37_1
              try clear hcz44_0 hcz44_1
              try clear hfz10_0 hfz10_1
              try clear hfz12_0 hfz12_1
              try clear hfz17_0 hfz17_1
              try clear hfz37_0 hfz37_1
              try clear hfz44_0 hfz44_1
              try clear hx120_0
              try clear hx121_0
              try clear hx125_0
              try clear p1
              try clear p12
              try clear p120
              try clear p121
              try clear p125
              try clear p2
              try clear q1
              try clear q12
              try clear q120
              try clear q121
              try clear q125
              obtain ⟨x11_3, x55_3, rfl, rfl, HA, HK3, HO_9, HO_10, HO_45, HO_53, BK101, HR120_0, HB⟩ := hrel
              cases gk with
              | zero => exact absurd HA.out (by simp [impl_PartNear.l1])
              | succ k3 =>
               have H := HA.out; clear HA; simp only [impl_PartNear.l1] at H; by_cases c47 : x55_3 < (t126.length : Int)
               ·
                rw [if_pos c47] at H; have c47b0 := dl c47; clear c47; by_cases c48 : 0 ≤ x55_3
                ·
                 rw [if_pos c48] at H; have c48b0 := de c48; clear c48; by_cases c49 : x55_3 < (t126.length : Int)
                 ·
                  rw [if_pos c49] at H; have c49b0 := dl c49; clear c49; by_cases c50 : 0 ≤ a2
                  ·
                   rw [if_pos c50] at H; have c50b0 := de c50; clear c50; by_cases c51 : a2 < (t111.length : Int)
                   ·
                    rw [if_pos c51] at H; have c51b0 := dl c51; clear c51; by_cases c52 : 0 ≤ (rd t122 x47_2)
                    ·
                     rw [if_pos c52] at H; have c52b0 := de c52; clear c52; by_cases c53 : (rd t122 x47_2) < ((rd_L5 t111 a2).length : Int)
                     ·
                      rw [if_pos c53] at H; have c53b0 := dl c53; clear c53; by_cases c54 : (rd (rd_L5 t111 a2) (rd t122 x47_2)) = 99999
                      ·
                       rw [if_pos c54] at H; obtain ⟨c54b0, c54b1⟩ := dq c54; clear c54; have H' := Aside0.mk H; clear H; have p129 : 0 ≤ (x55_3 : Int) := ua; have q129 : x55_3 < (t126.length : Int) := ua; obtain ⟨ad129, e129, hx129_0⟩ := Kd.at_int (Kd.R_reads' HO_53.out).2.2 x55_3 p129 q129
                       cases e129
                       replace p129 := eq_true p129; replace q129 := eq_true q129; have p130 : 0 ≤ (a2 : Int) := ua; have q130 : a2 < (t111.length : Int) := ua; obtain ⟨ad130, A130_0, c130_0, e130, hx130_0, hl130_0, hi130_0⟩ := at_L5 (Kd.S_reads' HO_9.out).2.2 a2 p130 q130; obtain rfl : ad120 = ad130 := (by injection e130)
                       obtain ⟨ce130, hce130, hMe130, hcc130⟩ := Kd.S_get HO_9.out [] a2 p130 (by first | exact q130 | exact ua | (have e_ := (Kd.S_reads' HO_9.out).1; omega)); obtain ⟨ve130_0, rfl, ge130_0⟩ := hMe130; have hv130_0 := hcc130 0 _ rfl; rw [Nat.add_zero, show ((Kd.slice 3 (Kd.int .i64))).sz = 1 from rfl, Nat.mul_one] at hv130_0; replace hv130_0 := Option.some.inj (hv130_0.symm.trans hx130_0); rw [hv130_0] at ge130_0; have HL130_0 := Aside0.mk (show Kd.R (Kd.int .i64) 3 _ _ _ _ (rd_L5 t111 a2) from ge130_0); clear hv130_0 ge130_0; clear hcc130 hce130; have HR130_0 := Aside0.mk hi130_0; have HC130_0 := Aside0.mk hl130_0; clear hi130_0 hl130_0; replace p130 := eq_true p130; replace q130 := eq_true q130; have p131 : 0 ≤ ((rd t122 x47_2) : Int) := ua; have q131 : (rd t122 x47_2) < ((rd_L5 t111 a2).length : Int) := ua; obtain ⟨ad131, e131, hx131_0⟩ := Kd.at_int (by repeat (first | (with_reducible exact HR130_0.out) | (with_reducible refine Kd.C_alloc ?_ _) | (with_reducible refine Kd.C_drewN ?_ _) | (with_reducible refine Kd.C_drew ?_) | exact HR130_0.out)) (rd t122 x47_2) p131 q131
                       cases e131
                       replace p131 := eq_true p131; replace q131 := eq_true q131; go_wp2; go_roundg k3
                       case measure => have := HJ4.out; have := HK2.out; have := HK3.out; omega
                       case rel => exact ⟨(x11_3), (wrap64 (x55_3 + 1)), ue, ue, H', ⟨by have := HJ4.out; have := HK2.out; have := HK3.out; omega⟩, ⟨by (with_reducible repeat (first | apply Kd.S_alloc | apply Kd.S_drewN | apply Kd.S_drew)); exact HO_9.out⟩, ⟨by (with_reducible repeat (first | apply Kd.S_alloc | apply Kd.S_drewN | apply Kd.S_drew)); exact HO_10.out⟩, ⟨ur HO_45⟩, ⟨ur HO_53⟩, ⟨ub BK101⟩, ⟨by repeat (first | (with_reducible exact HR120_0.out) | (with_reducible refine Kd.C_alloc ?_ _) | (with_reducible refine Kd.C_drewN ?_ _) | (with_reducible refine Kd.C_drew ?_) | exact HR120_0.out)⟩, ⟨uB1 HB GE101.out⟩⟩
                      ·
                       rw [if_neg c54] at H; obtain ⟨c54b0, c54b1⟩ := dQ c54; by_cases c55 : (rd t122 x47_2) < (t117.length : Int)
                       ·
                        rw [if_pos c55] at H; have c55b0 := dl c55; clear c55; by_cases c56 : 0 ≤ (rd t126 x55_3)
                        ·
                         rw [if_pos c56] at H; have c56b0 := de c56; clear c56; by_cases c57 : (rd t126 x55_3) < ((rd_L5 t117 (rd t122 x47_2)).length : Int)
                         ·
                          rw [if_pos c57] at H; have c57b0 := dl c57; clear c57; by_cases c58 : (rd (rd_L5 t117 (rd t122 x47_2)) (rd t126 x55_3)) = 99999
                          ·
                           rw [if_pos c58] at H; obtain ⟨c58b0, c58b1⟩ := dq c58; clear c58; have H' := Aside0.mk H; clear H; have p129 : 0 ≤ (x55_3 : Int) := ua; have q129 : x55_3 < (t126.length : Int) := ua; obtain ⟨ad129, e129, hx129_0⟩ := Kd.at_int (Kd.R_reads' HO_53.out).2.2 x55_3 p129 q129
                           cases e129
                           replace p129 := eq_true p129; replace q129 := eq_true q129; have p130 : 0 ≤ (a2 : Int) := ua; have q130 : a2 < (t111.length : Int) := ua; obtain ⟨ad130, A130_0, c130_0, e130, hx130_0, hl130_0, hi130_0⟩ := at_L5 (Kd.S_reads' HO_9.out).2.2 a2 p130 q130; obtain rfl : ad120 = ad130 := (by injection e130)
                           obtain ⟨ce130, hce130, hMe130, hcc130⟩ := Kd.S_get HO_9.out [] a2 p130 (by first | exact q130 | exact ua | (have e_ := (Kd.S_reads' HO_9.out).1; omega)); obtain ⟨ve130_0, rfl, ge130_0⟩ := hMe130; have hv130_0 := hcc130 0 _ rfl; rw [Nat.add_zero, show ((Kd.slice 3 (Kd.int .i64))).sz = 1 from rfl, Nat.mul_one] at hv130_0; replace hv130_0 := Option.some.inj (hv130_0.symm.trans hx130_0); rw [hv130_0] at ge130_0; have HL130_0 := Aside0.mk (show Kd.R (Kd.int .i64) 3 _ _ _ _ (rd_L5 t111 a2) from ge130_0); clear hv130_0 ge130_0; clear hcc130 hce130; have HR130_0 := Aside0.mk hi130_0; have HC130_0 := Aside0.mk hl130_0; clear hi130_0 hl130_0; replace p130 := eq_true p130; replace q130 := eq_true q130; have p131 : 0 ≤ ((rd t122 x47_2) : Int) := ua; have q131 : (rd t122 x47_2) < ((rd_L5 t111 a2).length : Int) := ua; obtain ⟨ad131, e131, hx131_0⟩ := Kd.at_int (by repeat (first | (with_reducible exact HR130_0.out) | (with_reducible refine Kd.C_alloc ?_ _) | (with_reducible refine Kd.C_drewN ?_ _) | (with_reducible refine Kd.C_drew ?_) | exact HR130_0.out)) (rd t122 x47_2) p131 q131
                           cases e131
                           replace p131 := eq_true p131; replace q131 := eq_true q131; obtain ⟨Ao59, co59, eo59⟩ := Kd.S_slice HO_10.out; subst eo59; have p132 : 0 ≤ ((rd t122 x47_2) : Int) := ua; have q132 : (rd t122 x47_2) < (t117.length : Int) := ua; obtain ⟨ad132, A132_0, c132_0, e132, hx132_0, hl132_0, hi132_0⟩ := at_L5 (Kd.S_reads' HO_10.out).2.2 (rd t122 x47_2) p132 q132
                           cases e132
                           obtain ⟨ce132, hce132, hMe132, hcc132⟩ := Kd.S_get HO_10.out [] (rd t122 x47_2) p132 (by first | exact q132 | exact ua | (have e_ := (Kd.S_reads' HO_10.out).1; omega)); obtain ⟨ve132_0, rfl, ge132_0⟩ := hMe132; have hv132_0 := hcc132 0 _ rfl; rw [Nat.add_zero, show ((Kd.slice 3 (Kd.int .i64))).sz = 1 from rfl, Nat.mul_one] at hv132_0; replace hv132_0 := Option.some.inj (hv132_0.symm.trans hx132_0); rw [hv132_0] at ge132_0; have HL132_0 := Aside0.mk (show Kd.R (Kd.int .i64) 3 _ _ _ _ (rd_L5 t117 (rd t122 x47_2)) from ge132_0); clear hv132_0 ge132_0; clear hcc132 hce132; have HR132_0 := Aside0.mk hi132_0; have HC132_0 := Aside0.mk hl132_0; clear hi132_0 hl132_0; replace p132 := eq_true p132; replace q132 := eq_true q132; have p133 : 0 ≤ ((rd t126 x55_3) : Int) := ua; have q133 : (rd t126 x55_3) < ((rd_L5 t117 (rd t122 x47_2)).length : Int) := ua; obtain ⟨ad133, e133, hx133_0⟩ := Kd.at_int (by repeat (first | (with_reducible exact HR132_0.out) | (with_reducible refine Kd.C_alloc ?_ _) | (with_reducible refine Kd.C_drewN ?_ _) | (with_reducible refine Kd.C_drew ?_) | exact HR132_0.out)) (rd t126 x55_3) p133 q133
                           cases e133
                           replace p133 := eq_true p133; replace q133 := eq_true q133; go_wp2; go_roundg k3
                           case measure => have := HJ4.out; have := HK2.out; have := HK3.out; omega
                           case rel => exact ⟨(x11_3), (wrap64 (x55_3 + 1)), ue, ue, H', ⟨by have := HJ4.out; have := HK2.out; have := HK3.out; omega⟩, ⟨by (with_reducible repeat (first | apply Kd.S_alloc | apply Kd.S_drewN | apply Kd.S_drew)); exact HO_9.out⟩, ⟨by (with_reducible repeat (first | apply Kd.S_alloc | apply Kd.S_drewN | apply Kd.S_drew)); exact HO_10.out⟩, ⟨ur HO_45⟩, ⟨ur HO_53⟩, ⟨ub BK101⟩, ⟨by repeat (first | (with_reducible exact HR120_0.out) | (with_reducible refine Kd.C_alloc ?_ _) | (with_reducible refine Kd.C_drewN ?_ _) | (with_reducible refine Kd.C_drew ?_) | exact HR120_0.out)⟩, ⟨uB1 HB GE101.out⟩⟩
                          ·
                           rw [if_neg c58] at H; obtain ⟨c58b0, c58b1⟩ := dQ c58; by_cases c60 : (rd t126 x55_3) < (t111.length : Int)
                           ·
                            rw [if_pos c60] at H; have c60b0 := dl c60; clear c60; by_cases c61 : 0 ≤ a3
                            ·
                             rw [if_pos c61] at H; have c61b0 := de c61; clear c61; by_cases c62 : a3 < ((rd_L5 t111 (rd t126 x55_3)).length : Int)
                             ·
                              rw [if_pos c62] at H; have c62b0 := dl c62; clear c62; by_cases c63 : (rd (rd_L5 t111 (rd t126 x55_3)) a3) = 99999
                              ·
                               rw [if_pos c63] at H; obtain ⟨c63b0, c63b1⟩ := dq c63; clear c63; have H' := Aside0.mk H; clear H; have p129 : 0 ≤ (x55_3 : Int) := ua; have q129 : x55_3 < (t126.length : Int) := ua; obtain ⟨ad129, e129, hx129_0⟩ := Kd.at_int (Kd.R_reads' HO_53.out).2.2 x55_3 p129 q129
                               cases e129
                               replace p129 := eq_true p129; replace q129 := eq_true q129; have p130 : 0 ≤ (a2 : Int) := ua; have q130 : a2 < (t111.length : Int) := ua; obtain ⟨ad130, A130_0, c130_0, e130, hx130_0, hl130_0, hi130_0⟩ := at_L5 (Kd.S_reads' HO_9.out).2.2 a2 p130 q130; obtain rfl : ad120 = ad130 := (by injection e130)
                               obtain ⟨ce130, hce130, hMe130, hcc130⟩ := Kd.S_get HO_9.out [] a2 p130 (by first | exact q130 | exact ua | (have e_ := (Kd.S_reads' HO_9.out).1; omega)); obtain ⟨ve130_0, rfl, ge130_0⟩ := hMe130; have hv130_0 := hcc130 0 _ rfl; rw [Nat.add_zero, show ((Kd.slice 3 (Kd.int .i64))).sz = 1 from rfl, Nat.mul_one] at hv130_0; replace hv130_0 := Option.some.inj (hv130_0.symm.trans hx130_0); rw [hv130_0] at ge130_0; have HL130_0 := Aside0.mk (show Kd.R (Kd.int .i64) 3 _ _ _ _ (rd_L5 t111 a2) from ge130_0); clear hv130_0 ge130_0; clear hcc130 hce130; have HR130_0 := Aside0.mk hi130_0; have HC130_0 := Aside0.mk hl130_0; clear hi130_0 hl130_0; replace p130 := eq_true p130; replace q130 := eq_true q130; have p131 : 0 ≤ ((rd t122 x47_2) : Int) := ua; have q131 : (rd t122 x47_2) < ((rd_L5 t111 a2).length : Int) := ua; obtain ⟨ad131, e131, hx131_0⟩ := Kd.at_int (by repeat (first | (with_reducible exact HR130_0.out) | (with_reducible refine Kd.C_alloc ?_ _) | (with_reducible refine Kd.C_drewN ?_ _) | (with_reducible refine Kd.C_drew ?_) | exact HR130_0.out)) (rd t122 x47_2) p131 q131
                               cases e131
                               replace p131 := eq_true p131; replace q131 := eq_true q131; obtain ⟨Ao64, co64, eo64⟩ := Kd.S_slice HO_10.out; subst eo64; have p132 : 0 ≤ ((rd t122 x47_2) : Int) := ua; have q132 : (rd t122 x47_2) < (t117.length : Int) := ua; obtain ⟨ad132, A132_0, c132_0, e132, hx132_0, hl132_0, hi132_0⟩ := at_L5 (Kd.S_reads' HO_10.out).2.2 (rd t122 x47_2) p132 q132
                               cases e132
                               obtain ⟨ce132, hce132, hMe132, hcc132⟩ := Kd.S_get HO_10.out [] (rd t122 x47_2) p132 (by first | exact q132 | exact ua | (have e_ := (Kd.S_reads' HO_10.out).1; omega)); obtain ⟨ve132_0, rfl, ge132_0⟩ := hMe132; have hv132_0 := hcc132 0 _ rfl; rw [Nat.add_zero, show ((Kd.slice 3 (Kd.int .i64))).sz = 1 from rfl, Nat.mul_one] at hv132_0; replace hv132_0 := Option.some.inj (hv132_0.symm.trans hx132_0); rw [hv132_0] at ge132_0; have HL132_0 := Aside0.mk (show Kd.R (Kd.int .i64) 3 _ _ _ _ (rd_L5 t117 (rd t122 x47_2)) from ge132_0); clear hv132_0 ge132_0; clear hcc132 hce132; have HR132_0 := Aside0.mk hi132_0; have HC132_0 := Aside0.mk hl132_0; clear hi132_0 hl132_0; replace p132 := eq_true p132; replace q132 := eq_true q132; have p133 : 0 ≤ ((rd t126 x55_3) : Int) := ua; have q133 : (rd t126 x55_3) < ((rd_L5 t117 (rd t122 x47_2)).length : Int) := ua; obtain ⟨ad133, e133, hx133_0⟩ := Kd.at_int (by repeat (first | (with_reducible exact HR132_0.out) | (with_reducible refine Kd.C_alloc ?_ _) | (with_reducible refine Kd.C_drewN ?_ _) | (with_reducible refine Kd.C_drew ?_) | exact HR132_0.out)) (rd t126 x55_3) p133 q133
                               cases e133
                               replace p133 := eq_true p133; replace q133 := eq_true q133; have p134 : 0 ≤ ((rd t126 x55_3) : Int) := ua; have q134 : (rd t126 x55_3) < (t111.length : Int) := ua; obtain ⟨ad134, A134_0, c134_0, e134, hx134_0, hl134_0, hi134_0⟩ := at_L5 (Kd.S_reads' HO_9.out).2.2 (rd t126 x55_3) p134 q134; obtain rfl : ad120 = ad134 := (by injection e134)
                               obtain ⟨ce134, hce134, hMe134, hcc134⟩ := Kd.S_get HO_9.out [] (rd t126 x55_3) p134 (by first | exact q134 | exact ua | (have e_ := (Kd.S_reads' HO_9.out).1; omega)); obtain ⟨ve134_0, rfl, ge134_0⟩ := hMe134; have hv134_0 := hcc134 0 _ rfl; rw [Nat.add_zero, show ((Kd.slice 3 (Kd.int .i64))).sz = 1 from rfl, Nat.mul_one] at hv134_0; replace hv134_0 := Option.some.inj (hv134_0.symm.trans hx134_0); rw [hv134_0] at ge134_0; have HL134_0 := Aside0.mk (show Kd.R (Kd.int .i64) 3 _ _ _ _ (rd_L5 t111 (rd t126 x55_3)) from ge134_0); clear hv134_0 ge134_0; clear hcc134 hce134; have HR134_0 := Aside0.mk hi134_0; have HC134_0 := Aside0.mk hl134_0; clear hi134_0 hl134_0; replace p134 := eq_true p134; replace q134 := eq_true q134; have p135 : 0 ≤ (a3 : Int) := ua; have q135 : a3 < ((rd_L5 t111 (rd t126 x55_3)).length : Int) := ua; obtain ⟨ad135, e135, hx135_0⟩ := Kd.at_int (by repeat (first | (with_reducible exact HR134_0.out) | (with_reducible refine Kd.C_alloc ?_ _) | (with_reducible refine Kd.C_drewN ?_ _) | (with_reducible refine Kd.C_drew ?_) | exact HR134_0.out)) a3 p135 q135
                               cases e135
                               replace p135 := eq_true p135; replace q135 := eq_true q135; go_wp2; go_roundg k3
                               case measure => have := HJ4.out; have := HK2.out; have := HK3.out; omega
                               case rel => exact ⟨(x11_3), (wrap64 (x55_3 + 1)), ue, ue, H', ⟨by have := HJ4.out; have := HK2.out; have := HK3.out; omega⟩, ⟨by (with_reducible repeat (first | apply Kd.S_alloc | apply Kd.S_drewN | apply Kd.S_drew)); exact HO_9.out⟩, ⟨by (with_reducible repeat (first | apply Kd.S_alloc | apply Kd.S_drewN | apply Kd.S_drew)); exact HO_10.out⟩, ⟨ur HO_45⟩, ⟨ur HO_53⟩, ⟨ub BK101⟩, ⟨by repeat (first | (with_reducible exact HR120_0.out) | (with_reducible refine Kd.C_alloc ?_ _) | (with_reducible refine Kd.C_drewN ?_ _) | (with_reducible refine Kd.C_drew ?_) | exact HR120_0.out)⟩, ⟨uB1 HB GE101.out⟩⟩
                              ·
                               rw [if_neg c63] at H; obtain ⟨c63b0, c63b1⟩ := dQ c63; obtain ⟨ji65, hji65⟩ : ∃ j_ : Int, (mn x11_3 (wrap64 ((wrap64 ((rd (rd_L5 t111 a2) (rd t122 x47_2)) + (rd (rd_L5 t117 (rd t122 x47_2)) (rd t126 x55_3)))) + (rd (rd_L5 t111 (rd t126 x55_3)) a3)))) = j_ := ⟨_, rfl⟩
                               replace H : (impl_PartNear.l1 k3 l1 a2 a3 t111 t117 ji65 (rd t122 x47_2) t122 (t122.length : Int) x47_2 t126 (t126.length : Int) (wrap64 (x55_3 + 1)) a0_0 l0_1) = some r := by first | (rw [hji65] at H; exact H) | (simp only [hji65] at H ⊢; exact H)
                               have hji65_ : (if (wrap64 ((wrap64 ((rd (rd_L5 t111 a2) (rd t122 x47_2)) + (rd (rd_L5 t117 (rd t122 x47_2)) (rd t126 x55_3)))) + (rd (rd_L5 t111 (rd t126 x55_3)) a3))) < x11_3 then (wrap64 ((wrap64 ((rd (rd_L5 t111 a2) (rd t122 x47_2)) + (rd (rd_L5 t117 (rd t122 x47_2)) (rd t126 x55_3)))) + (rd (rd_L5 t111 (rd t126 x55_3)) a3))) else x11_3) = ji65 := hji65; have H' := Aside0.mk H; clear H; have p129 : 0 ≤ (x55_3 : Int) := ua; have q129 : x55_3 < (t126.length : Int) := ua; obtain ⟨ad129, e129, hx129_0⟩ := Kd.at_int (Kd.R_reads' HO_53.out).2.2 x55_3 p129 q129
                               cases e129
                               replace p129 := eq_true p129; replace q129 := eq_true q129; have p130 : 0 ≤ (a2 : Int) := ua; have q130 : a2 < (t111.length : Int) := ua; obtain ⟨ad130, A130_0, c130_0, e130, hx130_0, hl130_0, hi130_0⟩ := at_L5 (Kd.S_reads' HO_9.out).2.2 a2 p130 q130; obtain rfl : ad120 = ad130 := (by injection e130)
                               obtain ⟨ce130, hce130, hMe130, hcc130⟩ := Kd.S_get HO_9.out [] a2 p130 (by first | exact q130 | exact ua | (have e_ := (Kd.S_reads' HO_9.out).1; omega)); obtain ⟨ve130_0, rfl, ge130_0⟩ := hMe130; have hv130_0 := hcc130 0 _ rfl; rw [Nat.add_zero, show ((Kd.slice 3 (Kd.int .i64))).sz = 1 from rfl, Nat.mul_one] at hv130_0; replace hv130_0 := Option.some.inj (hv130_0.symm.trans hx130_0); rw [hv130_0] at ge130_0; have HL130_0 := Aside0.mk (show Kd.R (Kd.int .i64) 3 _ _ _ _ (rd_L5 t111 a2) from ge130_0); clear hv130_0 ge130_0; clear hcc130 hce130; have HR130_0 := Aside0.mk hi130_0; have HC130_0 := Aside0.mk hl130_0; clear hi130_0 hl130_0; replace p130 := eq_true p130; replace q130 := eq_true q130; have p131 : 0 ≤ ((rd t122 x47_2) : Int) := ua; have q131 : (rd t122 x47_2) < ((rd_L5 t111 a2).length : Int) := ua; obtain ⟨ad131, e131, hx131_0⟩ := Kd.at_int (by repeat (first | (with_reducible exact HR130_0.out) | (with_reducible refine Kd.C_alloc ?_ _) | (with_reducible refine Kd.C_drewN ?_ _) | (with_reducible refine Kd.C_drew ?_) | exact HR130_0.out)) (rd t122 x47_2) p131 q131
                               cases e131
                               replace p131 := eq_true p131; replace q131 := eq_true q131; obtain ⟨Ao66, co66, eo66⟩ := Kd.S_slice HO_10.out; subst eo66; have p132 : 0 ≤ ((rd t122 x47_2) : Int) := ua; have q132 : (rd t122 x47_2) < (t117.length : Int) := ua; obtain ⟨ad132, A132_0, c132_0, e132, hx132_0, hl132_0, hi132_0⟩ := at_L5 (Kd.S_reads' HO_10.out).2.2 (rd t122 x47_2) p132 q132
                               cases e132
                               obtain ⟨ce132, hce132, hMe132, hcc132⟩ := Kd.S_get HO_10.out [] (rd t122 x47_2) p132 (by first | exact q132 | exact ua | (have e_ := (Kd.S_reads' HO_10.out).1; omega)); obtain ⟨ve132_0, rfl, ge132_0⟩ := hMe132; have hv132_0 := hcc132 0 _ rfl; rw [Nat.add_zero, show ((Kd.slice 3 (Kd.int .i64))).sz = 1 from rfl, Nat.mul_one] at hv132_0; replace hv132_0 := Option.some.inj (hv132_0.symm.trans hx132_0); rw [hv132_0] at ge132_0; have HL132_0 := Aside0.mk (show Kd.R (Kd.int .i64) 3 _ _ _ _ (rd_L5 t117 (rd t122 x47_2)) from ge132_0); clear hv132_0 ge132_0; clear hcc132 hce132; have HR132_0 := Aside0.mk hi132_0; have HC132_0 := Aside0.mk hl132_0; clear hi132_0 hl132_0; replace p132 := eq_true p132; replace q132 := eq_true q132; have p133 : 0 ≤ ((rd t126 x55_3) : Int) := ua; have q133 : (rd t126 x55_3) < ((rd_L5 t117 (rd t122 x47_2)).length : Int) := ua; obtain ⟨ad133, e133, hx133_0⟩ := Kd.at_int (by repeat (first | (with_reducible exact HR132_0.out) | (with_reducible refine Kd.C_alloc ?_ _) | (with_reducible refine Kd.C_drewN ?_ _) | (with_reducible refine Kd.C_drew ?_) | exact HR132_0.out)) (rd t126 x55_3) p133 q133
                               cases e133
                               replace p133 := eq_true p133; replace q133 := eq_true q133; have p134 : 0 ≤ ((rd t126 x55_3) : Int) := ua; have q134 : (rd t126 x55_3) < (t111.length : Int) := ua; obtain ⟨ad134, A134_0, c134_0, e134, hx134_0, hl134_0, hi134_0⟩ := at_L5 (Kd.S_reads' HO_9.out).2.2 (rd t126 x55_3) p134 q134; obtain rfl : ad120 = ad134 := (by injection e134)
                               obtain ⟨ce134, hce134, hMe134, hcc134⟩ := Kd.S_get HO_9.out [] (rd t126 x55_3) p134 (by first | exact q134 | exact ua | (have e_ := (Kd.S_reads' HO_9.out).1; omega)); obtain ⟨ve134_0, rfl, ge134_0⟩ := hMe134; have hv134_0 := hcc134 0 _ rfl; rw [Nat.add_zero, show ((Kd.slice 3 (Kd.int .i64))).sz = 1 from rfl, Nat.mul_one] at hv134_0; replace hv134_0 := Option.some.inj (hv134_0.symm.trans hx134_0); rw [hv134_0] at ge134_0; have HL134_0 := Aside0.mk (show Kd.R (Kd.int .i64) 3 _ _ _ _ (rd_L5 t111 (rd t126 x55_3)) from ge134_0); clear hv134_0 ge134_0; clear hcc134 hce134; have HR134_0 := Aside0.mk hi134_0; have HC134_0 := Aside0.mk hl134_0; clear hi134_0 hl134_0; replace p134 := eq_true p134; replace q134 := eq_true q134; have p135 : 0 ≤ (a3 : Int) := ua; have q135 : a3 < ((rd_L5 t111 (rd t126 x55_3)).length : Int) := ua; obtain ⟨ad135, e135, hx135_0⟩ := Kd.at_int (by repeat (first | (with_reducible exact HR134_0.out) | (with_reducible refine Kd.C_alloc ?_ _) | (with_reducible refine Kd.C_drewN ?_ _) | (with_reducible refine Kd.C_drew ?_) | exact HR134_0.out)) a3 p135 q135
                               cases e135
                               replace p135 := eq_true p135; replace q135 := eq_true q135; try go_wp2
                               replace HO_9 := Aside0.mk (Kd.S_drew HO_9.out); replace HO_10 := Aside0.mk (Kd.S_drew HO_10.out); replace HO_45 := Aside0.mk (Kd.R_drew HO_45.out); replace HO_53 := Aside0.mk (Kd.R_drew HO_53.out); replace HL130_0 := Aside0.mk (Kd.R_drew HL130_0.out); replace HL132_0 := Aside0.mk (Kd.R_drew HL132_0.out); replace HL134_0 := Aside0.mk (Kd.R_drew HL134_0.out); replace BK101 := Aside0.mk (blk_drew BK101.out); replace HR120_0 := Aside0.mk (Kd.C_drew HR120_0.out); replace HR130_0 := Aside0.mk (Kd.C_drew HR130_0.out); replace HR132_0 := Aside0.mk (Kd.C_drew HR132_0.out); replace HR134_0 := Aside0.mk (Kd.C_drew HR134_0.out); replace HB := Aside0.mk (below_drew1 HB.out); have p136 : 0 ≤ (a2 : Int) := ua; have q136 : a2 < (t111.length : Int) := ua; obtain ⟨ad136, A136_0, c136_0, e136, hx136_0, hl136_0, hi136_0⟩ := at_L5 (Kd.S_reads' HO_9.out).2.2 a2 p136 q136; obtain rfl : ad120 = ad136 := (by injection e136)
                               obtain ⟨ce136, hce136, hMe136, hcc136⟩ := Kd.S_get HO_9.out [] a2 p136 (by first | exact q136 | exact ua | (have e_ := (Kd.S_reads' HO_9.out).1; omega)); obtain ⟨ve136_0, rfl, ge136_0⟩ := hMe136; have hv136_0 := hcc136 0 _ rfl; rw [Nat.add_zero, show ((Kd.slice 3 (Kd.int .i64))).sz = 1 from rfl, Nat.mul_one] at hv136_0; replace hv136_0 := Option.some.inj (hv136_0.symm.trans hx136_0); rw [hv136_0] at ge136_0; have HL136_0 := Aside0.mk (show Kd.R (Kd.int .i64) 3 _ _ _ _ (rd_L5 t111 a2) from ge136_0); clear hv136_0 ge136_0; clear hcc136 hce136; have HR136_0 := Aside0.mk hi136_0; have HC136_0 := Aside0.mk hl136_0; clear hi136_0 hl136_0; replace p136 := eq_true p136; replace q136 := eq_true q136; have p137 : 0 ≤ ((rd t122 x47_2) : Int) := ua; have q137 : (rd t122 x47_2) < ((rd_L5 t111 a2).length : Int) := ua; obtain ⟨ad137, e137, hx137_0⟩ := Kd.at_int (by repeat (first | (with_reducible exact HR136_0.out) | (with_reducible refine Kd.C_alloc ?_ _) | (with_reducible refine Kd.C_drewN ?_ _) | (with_reducible refine Kd.C_drew ?_) | exact HR136_0.out)) (rd t122 x47_2) p137 q137
                               cases e137
                               replace p137 := eq_true p137; replace q137 := eq_true q137; have p138 : 0 ≤ ((rd t122 x47_2) : Int) := ua; have q138 : (rd t122 x47_2) < (t117.length : Int) := ua; obtain ⟨ad138, A138_0, c138_0, e138, hx138_0, hl138_0, hi138_0⟩ := at_L5 (Kd.S_reads' HO_10.out).2.2 (rd t122 x47_2) p138 q138; obtain rfl : ad132 = ad138 := (by injection e138)
                               obtain ⟨ce138, hce138, hMe138, hcc138⟩ := Kd.S_get HO_10.out [] (rd t122 x47_2) p138 (by first | exact q138 | exact ua | (have e_ := (Kd.S_reads' HO_10.out).1; omega)); obtain ⟨ve138_0, rfl, ge138_0⟩ := hMe138; have hv138_0 := hcc138 0 _ rfl; rw [Nat.add_zero, show ((Kd.slice 3 (Kd.int .i64))).sz = 1 from rfl, Nat.mul_one] at hv138_0; replace hv138_0 := Option.some.inj (hv138_0.symm.trans hx138_0); rw [hv138_0] at ge138_0; have HL138_0 := Aside0.mk (show Kd.R (Kd.int .i64) 3 _ _ _ _ (rd_L5 t117 (rd t122 x47_2)) from ge138_0); clear hv138_0 ge138_0; clear hcc138 hce138; have HR138_0 := Aside0.mk hi138_0; have HC138_0 := Aside0.mk hl138_0; clear hi138_0 hl138_0; replace p138 := eq_true p138; replace q138 := eq_true q138; have p139 : 0 ≤ ((rd t126 x55_3) : Int) := ua; have q139 : (rd t126 x55_3) < ((rd_L5 t117 (rd t122 x47_2)).length : Int) := ua; obtain ⟨ad139, e139, hx139_0⟩ := Kd.at_int (by repeat (first | (with_reducible exact HR138_0.out) | (with_reducible refine Kd.C_alloc ?_ _) | (with_reducible refine Kd.C_drewN ?_ _) | (with_reducible refine Kd.C_drew ?_) | exact HR138_0.out)) (rd t126 x55_3) p139 q139
                               cases e139
                               replace p139 := eq_true p139; replace q139 := eq_true q139; have p140 : 0 ≤ ((rd t126 x55_3) : Int) := ua; have q140 : (rd t126 x55_3) < (t111.length : Int) := ua; obtain ⟨ad140, A140_0, c140_0, e140, hx140_0, hl140_0, hi140_0⟩ := at_L5 (Kd.S_reads' HO_9.out).2.2 (rd t126 x55_3) p140 q140; obtain rfl : ad120 = ad140 := (by injection e140)
                               obtain ⟨ce140, hce140, hMe140, hcc140⟩ := Kd.S_get HO_9.out [] (rd t126 x55_3) p140 (by first | exact q140 | exact ua | (have e_ := (Kd.S_reads' HO_9.out).1; omega)); obtain ⟨ve140_0, rfl, ge140_0⟩ := hMe140; have hv140_0 := hcc140 0 _ rfl; rw [Nat.add_zero, show ((Kd.slice 3 (Kd.int .i64))).sz = 1 from rfl, Nat.mul_one] at hv140_0; replace hv140_0 := Option.some.inj (hv140_0.symm.trans hx140_0); rw [hv140_0] at ge140_0; have HL140_0 := Aside0.mk (show Kd.R (Kd.int .i64) 3 _ _ _ _ (rd_L5 t111 (rd t126 x55_3)) from ge140_0); clear hv140_0 ge140_0; clear hcc140 hce140; have HR140_0 := Aside0.mk hi140_0; have HC140_0 := Aside0.mk hl140_0; clear hi140_0 hl140_0; replace p140 := eq_true p140; replace q140 := eq_true q140; have p141 : 0 ≤ (a3 : Int) := ua; have q141 : a3 < ((rd_L5 t111 (rd t126 x55_3)).length : Int) := ua; obtain ⟨ad141, e141, hx141_0⟩ := Kd.at_int (by repeat (first | (with_reducible exact HR140_0.out) | (with_reducible refine Kd.C_alloc ?_ _) | (with_reducible refine Kd.C_drewN ?_ _) | (with_reducible refine Kd.C_drew ?_) | exact HR140_0.out)) a3 p141 q141
                               cases e141
                               replace p141 := eq_true p141; replace q141 := eq_true q141; refine start_ (n := 26) (S := fun w' => w'.cell? (ad120.add (a2).toNat) = some (.slice (some ad137) (rd_L5 t111 a2).length c136_0) ∧ w'.cell? (ad137.add ((rd t122 x47_2)).toNat) = some (.int .i64 (rd (rd_L5 t111 a2) (rd t122 x47_2))) ∧ w'.cell? (ad132.add ((rd t122 x47_2)).toNat) = some (.slice (some ad139) (rd_L5 t117 (rd t122 x47_2)).length c138_0) ∧ w'.cell? (ad139.add ((rd t126 x55_3)).toNat) = some (.int .i64 (rd (rd_L5 t117 (rd t122 x47_2)) (rd t126 x55_3))) ∧ w'.cell? (ad120.add ((rd t126 x55_3)).toNat) = some (.slice (some ad141) (rd_L5 t111 (rd t126 x55_3)).length c140_0) ∧ w'.cell? (ad141.add (a3).toNat) = some (.int .i64 (rd (rd_L5 t111 (rd t126 x55_3)) a3))) (ds := []) (zt 26 0) (by kernel_rfl) rfl (by kernel_rfl) ⟨hx136_0, hx137_0, hx138_0, hx139_0, hx140_0, hx141_0⟩ (fun hHeld => ?_); refine with_tabW impl_PartNear.tab12 impl_PartNear.bits12 (fun HT_ HW_ => ?_); generalize wr.drew = w67 at HO_9 HO_10 HO_45 HO_53 HL130_0 HL132_0 HL134_0 BK101 HR120_0 HR130_0 HR132_0 HR134_0 HB HL136_0 HL138_0 HL140_0 HR136_0 HR138_0 HR140_0 hx136_0 hx137_0 hx138_0 hx139_0 hx140_0 hx141_0 hHeld ⊢; refine qz HT_ 0 ?_; refine qz HT_ 1 ?_; refine qz HT_ 2 ?_; refine qz HT_ 3 ?_; refine qz HT_ 5 ?_; refine qz HT_ 8 ?_; refine qz HT_ 9 ?_; refine qz HT_ 10 ?_; refine qz HT_ 12 ?_; refine qz HT_ 16 ?_; refine qz HT_ 17 ?_; refine qz HT_ 18 ?_; refine qz HT_ 20 ?_; refine qt HT_ HW_ hHeld 4 ?_; refine qz HT_ 6 ?_; refine qt HT_ HW_ hHeld 7 ?_; refine qt HT_ HW_ hHeld 11 ?_; refine qz HT_ 13 ?_; refine qt HT_ HW_ hHeld 14 ?_; refine qz HT_ 15 ?_; refine qt HT_ HW_ hHeld 19 ?_; refine qz HT_ 21 ?_; refine qt HT_ HW_ hHeld 22 ?_; refine qz HT_ 23 ?_; refine qz HT_ 24 ?_; refine qz HT_ 25 ?_; refine done_ (done_of HT_.out (by kernel_rfl)) ?_; try go_wp2
                               go_roundg k3
                               case measure => have := HJ4.out; have := HK2.out; have := HK3.out; omega
                               case rel => exact ⟨(ji65), (wrap64 (x55_3 + 1)), (by first | rfl | (simp; done) | (simp only [← hji65] <;> (first | rfl | simp)) | (simp [*]; done)), ue, H', ⟨by have := HJ4.out; have := HK2.out; have := HK3.out; omega⟩, ⟨by (with_reducible repeat (first | apply Kd.S_alloc | apply Kd.S_drewN | apply Kd.S_drew)); exact HO_9.out⟩, ⟨by (with_reducible repeat (first | apply Kd.S_alloc | apply Kd.S_drewN | apply Kd.S_drew)); exact HO_10.out⟩, ⟨ur HO_45⟩, ⟨ur HO_53⟩, ⟨ub BK101⟩, ⟨by repeat (first | (with_reducible exact HR120_0.out) | (with_reducible refine Kd.C_alloc ?_ _) | (with_reducible refine Kd.C_drewN ?_ _) | (with_reducible refine Kd.C_drew ?_) | exact HR120_0.out)⟩, ⟨uB1 HB GE101.out⟩⟩
                             ·
                              rw [if_neg c62] at H; exact absurd H (by simp)
                            ·
                             rw [if_neg c61] at H; exact absurd H (by simp)
                           ·
                            rw [if_neg c60] at H; exact absurd H (by simp)
                         ·
                          rw [if_neg c57] at H; exact absurd H (by simp)
                        ·
                         rw [if_neg c56] at H; exact absurd H (by simp)
                       ·
                        rw [if_neg c55] at H; exact absurd H (by simp)
                     ·
                      rw [if_neg c53] at H; exact absurd H (by simp)
                    ·
                     rw [if_neg c52] at H; exact absurd H (by simp)
                   ·
                    rw [if_neg c51] at H; exact absurd H (by simp)
                  ·
                   rw [if_neg c50] at H; exact absurd H (by simp)
                 ·
                  rw [if_neg c49] at H; exact absurd H (by simp)
                ·
                 rw [if_neg c48] at H; exact absurd H (by simp)
               ·
                rw [if_neg c47] at H; have c47b0 := DL c47; clear c47; have H' := Aside0.mk H; clear H; go_wp2; go_roundg k3
                case measure => have := HJ4.out; have := HK2.out; have := HK3.out; omega
                case rel => exact ⟨(x11_3), (wrap64 (x47_2 + 1)), ue, ue, H', ⟨by have := HJ4.out; have := HK2.out; have := HK3.out; omega⟩, ⟨by (with_reducible repeat (first | apply Kd.S_alloc | apply Kd.S_drewN | apply Kd.S_drew)); exact Kd.S_mono HO_9.out (fun _ hk => ⟨hk.1, hk.2.1⟩)⟩, ⟨by (with_reducible repeat (first | apply Kd.S_alloc | apply Kd.S_drewN | apply Kd.S_drew)); exact Kd.S_mono HO_10.out (fun _ hk => ⟨hk.1, hk.2.1⟩)⟩, ⟨by (with_reducible repeat (first | apply Kd.R_alloc | apply Kd.R_drewN | apply Kd.R_drew)); exact Kd.R_mono HO_45.out (fun _ hk => trivial)⟩, ⟨ub BK101⟩, ⟨by repeat (first | (with_reducible exact HR120_0.out) | (with_reducible refine Kd.C_alloc ?_ _) | (with_reducible refine Kd.C_drewN ?_ _) | (with_reducible refine Kd.C_drew ?_) | exact HR120_0.out)⟩, ⟨uB1 HB GE101.out⟩⟩
            ·
             rw [if_neg c42] at H; exact absurd H (by simp)
           ·
            rw [if_neg c41] at H; exact absurd H (by simp)
          ·
           rw [if_neg c40] at H; have c40b0 := DL c40; clear c40; obtain rfl := Option.some.inj H; go_wp2; go_ret; exact ⟨ux, uB1 HB GE101.out⟩
       ·
        rw [if_neg c27] at H; exact absurd H (by simp)
      ·
       rw [if_neg c26] at H; exact absurd H (by simp)
     ·
      rw [if_neg c25] at H; exact absurd H (by simp)
    ·
     rw [if_neg c24] at H; exact absurd H (by simp)

end Go.Proofs.Ytblpdfgplifccaa.P
