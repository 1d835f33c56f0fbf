-- written for this claim by a program (wip/gen/myprint.py over the print tool). Not trusted: Lean checks it.
import Derived.Test.YtjmpngfgfddpaaaPx0
import Derived.Test.YtjmpngfgfddpaaaHUp
import Derived.Test.YtjmpngfgfddpaaaHGuard
import Derived.Test.YtjmpngfgfddpaaaPFImplNetTable
import Derived.Test.YtjmpngfgfddpaaaPFImplListok
import Derived.Test.YtjmpngfgfddpaaaPFImplBound
import Derived.Test.YtjmpngfgfddpaaaHNet
import Derived.Test.YtjmpngfgfddpaaaHRepeat
namespace Go.Proofs.Ytjmpngfgfddpaaa.P
open Go.RowKit Go.Proofs.YtjmpngfgfddpaaaV.PrintWords Go.Proofs.YtjmpngfgfddpaaaV.PrintLast
set_option linter.unusedVariables false
set_option linter.unusedSimpArgs false

/-! ### impl_MarkNear: function 89 -/
mutual
def impl_MarkNear.j0 : Nat → List Int → Int → Int → Bool → Int → List (S33) → Option (Int × Int)
 | 0, _, _, _, _, _, _ => none
 | k + 1, x1, x2, x3, x32, x102000, x102001 => if x32 = true then (some ((-1), (-1))) else ((impl_Net_table.f k x102000 x102001).bind fun t107 => ((slices_Repeat_int.f (([99999] : List Int)) x102000).bind fun t113 => (if 0 ≤ x2 then (if x2 < (t113.length : Int) then (if 0 ≤ x102000 then (if (x102000 : Int).toNat ≤ 281474976710656 then (impl_MarkNear.l0 k x1 x3 t107 (t113.set (x2 : Int).toNat 0) (List.replicate (x102000 : Int).toNat false) 0 x102000 x102001) else (none)) else (none)) else (none)) else (none))))
def impl_MarkNear.l0 : Nat → List Int → Int → List (List Int) → List Int → List Bool → Int → Int → List (S33) → Option (Int × Int)
 | 0, _, _, _, _, _, _, _, _ => none
 | k + 1, x1, x3, x10, x11, x12, x13, x102000, x102001 => impl_MarkNear.l1 k x1 x3 x10 x11 x12 x13 (-1) 0 x11 (x11.length : Int) 0 x102000 x102001
def impl_MarkNear.l1 : Nat → List Int → Int → List (List Int) → List Int → List Bool → Int → Int → Int → List Int → Int → Int → Int → List (S33) → Option (Int × Int)
 | 0, _, _, _, _, _, _, _, _, _, _, _, _, _ => none
 | k + 1, x1, x3, x10, x11, x12, x13, x14, x15, x45, x46, x47, x102000, x102001 => if x47 < x46 then (if 0 ≤ x47 then (if x47 < (x45.length : Int) then ((impl_bound.f k x10 x1 x47 x3).bind fun t121 => (if (rd x45 x47) = 99999 then (impl_MarkNear.j3 k x1 x3 x10 x11 x12 x13 x14 x15 x47 (rd x45 x47) t121 x45 x46 x47 true x102000 x102001) else (if x47 < (x12.length : Int) then (if rdOf false x12 x47 = true then (impl_MarkNear.j3 k x1 x3 x10 x11 x12 x13 x14 x15 x47 (rd x45 x47) t121 x45 x46 x47 true x102000 x102001) else (impl_MarkNear.j3 k x1 x3 x10 x11 x12 x13 x14 x15 x47 (rd x45 x47) t121 x45 x46 x47 (t121 == 99999) x102000 x102001)) else (none)))) else (none)) else (none)) else (if x14 < 0 then (some (99999, x13)) else (if 0 ≤ x14 then (if x14 < (x12.length : Int) then (if x14 = x3 then (if 0 ≤ x3 then (if x3 < (x11.length : Int) then (some (rd x11 x3, wrap64 (x13 + 1))) else (none)) else (none)) else (impl_MarkNear.l2 k x1 x3 x10 x11 (x12.set (x14 : Int).toNat true) (wrap64 (x13 + 1)) x14 x102001 (x102001.length : Int) 0 x102000 x102001)) else (none)) else (none)))
def impl_MarkNear.j3 : Nat → List Int → Int → List (List Int) → List Int → List Bool → Int → Int → Int → Int → Int → Int → List Int → Int → Int → Bool → Int → List (S33) → Option (Int × Int)
 | 0, _, _, _, _, _, _, _, _, _, _, _, _, _, _, _, _, _ => none
 | k + 1, x1, x3, x10, x11, x12, x13, x14, x15, x16, x17, x18, x45, x46, x47, x68, x102000, x102001 => if x68 = true then (impl_MarkNear.l1 k x1 x3 x10 x11 x12 x13 x14 x15 x45 x46 (wrap64 (x47 + 1)) x102000 x102001) else (if x14 < 0 then (impl_MarkNear.l1 k x1 x3 x10 x11 x12 x13 x16 (wrap64 (x17 + x18)) x45 x46 (wrap64 (x47 + 1)) x102000 x102001) else (if (wrap64 (x17 + x18)) < x15 then (impl_MarkNear.l1 k x1 x3 x10 x11 x12 x13 x16 (wrap64 (x17 + x18)) x45 x46 (wrap64 (x47 + 1)) x102000 x102001) else (impl_MarkNear.l1 k x1 x3 x10 x11 x12 x13 x14 x15 x45 x46 (wrap64 (x47 + 1)) x102000 x102001)))
def impl_MarkNear.l2 : Nat → List Int → Int → List (List Int) → List Int → List Bool → Int → Int → List (S33) → Int → Int → Int → List (S33) → Option (Int × Int)
 | 0, _, _, _, _, _, _, _, _, _, _, _, _ => none
 | k + 1, x1, x3, x10, x11, x12, x13, x14, x100, x101, x102, x102000, x102001 => if x102 < x101 then (if 0 ≤ x102 then (if x102 < (x100.length : Int) then (if ((rd_T33 x100 x102).f0) = x14 then (if 0 ≤ ((rd_T33 x100 x102).f1) then (if ((rd_T33 x100 x102).f1) < (x11.length : Int) then (if 0 ≤ x14 then (if x14 < (x11.length : Int) then (impl_MarkNear.l2 k x1 x3 x10 (x11.set (((rd_T33 x100 x102).f1) : Int).toNat (mn (rd x11 ((rd_T33 x100 x102).f1)) (wrap64 ((rd x11 x14) + ((rd_T33 x100 x102).f2))))) x12 x13 x14 x100 x101 (wrap64 (x102 + 1)) x102000 x102001) else (none)) else (none)) else (none)) else (none)) else (impl_MarkNear.l2 k x1 x3 x10 x11 x12 x13 x14 x100 x101 (wrap64 (x102 + 1)) x102000 x102001)) else (none)) else (none)) else (impl_MarkNear.l0 k x1 x3 x10 x11 x12 x13 x102000 x102001)
end
def impl_MarkNear.f (k : Nat) (a0_0 : Int) (l0_1 : List (S33)) (l1 : List Int) (a2 : Int) (a3 : Int) : Option (Int × Int) := (impl_listOk.f a0_0 l0_1 l1).bind fun t102 => (if t102 = true then ((impl_Net_has.f a0_0 l0_1 (([a2, a3] : List Int))).bind fun t106 => (impl_MarkNear.j0 k l1 a2 a3 (!t106) a0_0 l0_1)) else (impl_MarkNear.j0 k l1 a2 a3 true a0_0 l0_1))
def impl_MarkNear.T27 : Bool × List (List Nat × List Nat) := (true, [([], []), ([], []), ([1], [1]), ([], []), ([], []), ([4], [4]), ([3, 5], [3, 5]), ([6], [6]), ([], []), ([], []), ([8, 9], [8, 9]), ([10], [10]), ([], []), ([12], [12]), ([11, 13], [11, 13]), ([7, 14], [7, 14]), ([0, 2, 0, 1, 2, 3, 4, 5, 6, 7, 8, 9, 10, 11, 12, 13, 14, 15], [0, 2]), ([16, 15, 0, 1, 2, 3, 4, 5, 6, 7, 8, 9, 10, 11, 12, 13, 14, 15], [15, 16])])
def impl_MarkNear.B27 : List Nat := [0, 0, 2, 0, 0, 16, 56, 120, 0, 0, 768, 1792, 0, 4096, 16128, 32760, 65535, 131071]
theorem impl_MarkNear.tab27 : rtab .any (opsOf Try.f89 27) = impl_MarkNear.T27 := by kernel_rfl
theorem impl_MarkNear.bits27 : waitsOk impl_MarkNear.T27.2 impl_MarkNear.B27 = true := by kernel_rfl
set_option maxHeartbeats 8000000 in
set_option maxRecDepth 100000 in
theorem impl_MarkNear.calls (k : Nat) (a0_0 : Int) (A0_1 : Option Addr) (c0_1 : Nat) (l0_1 : List (S33)) (A1 : Option Addr) (c1 : Nat) (l1 : List Int) (a2 : Int) (a3 : Int) (r1 : Int) (r2 : Int) (w : World) (hr0_1 : Kd.C k33 w A0_1 l0_1.length l0_1) (hc0_1 : l0_1.length ≤ c0_1) (hr1 : Kd.C (Kd.int .i64) w A1 l1.length l1) (hc1 : l1.length ≤ c1) (h : impl_MarkNear.f k a0_0 l0_1 l1 a2 a3 = some (r1, r2)) :
  Calls Try.prog 89 #[.agg #[.int .i64 a0_0, .slice A0_1 l0_1.length c0_1], .slice A1 l1.length c1, .int .i64 a2, .int .i64 a3] w fun e w' => e = .returned (.tuple #[.int .i64 r1, .int .i64 r2]) ∧ Below w.heap.size w w' := by
 have hu25 := Try.underlying25
 have hu33 := Try.underlying33
 have HR0_1 := Aside0.mk hr0_1
 have HC0_1 := Aside0.mk hc0_1
 clear hr0_1 hc0_1
 have HR1 := Aside0.mk hr1
 have HC1 := Aside0.mk hc1
 clear hr1 hc1
 have HB := Aside0.mk (Below.refl w.heap.size w)
 have H : ((impl_listOk.f a0_0 l0_1 l1).bind fun t102 => (if t102 = true then ((impl_Net_has.f a0_0 l0_1 (([a2, a3] : List Int))).bind fun t106 => (impl_MarkNear.j0 k l1 a2 a3 (!t106) a0_0 l0_1)) else (impl_MarkNear.j0 k l1 a2 a3 true a0_0 l0_1))) = some (r1, r2) := h
 clear h
 have HC5 := Aside0.mk H
 clear H
 go_enter Try.func89, Try.ntmps89
 go_upto_region 1 with (first | ((with_reducible refine gate_dst (N := 4) rfl ?_); refine box_event ?hg (N := 4) ?hd (cs := #[.int .i64 a0_0, .slice A0_1 l0_1.length c0_1]) (t := 25) ?hr ?_; (case hd => rfl); (case hg => rfl); (case hr => first | (go_simp; done) | (go_simp; rfl)); intro gb101 hg w6 hbox hb; have n0_ := Aside0.mk (below_step (uB0 HB) hb); have n1_ := Aside0.mk (hbox); have n2_ := Aside0.mk ((by rw [hg]; exact (below_size (uB0 HB)) : w.heap.size ≤ gb101)); have n3_ := Aside0.mk ((by rw [hg]; exact (below_size (uB0 HB)) : w.heap.size ≤ gb101)); clear HB; have HB := n0_; have BK101 := n1_; have GW101 := n2_; have GE101 := n3_; clear n0_ n1_ n2_ n3_; clear hb hbox hg))
 (try simp only [Act.put, List.setIfInBounds_toArray, List.set_cons_zero, List.set_cons_succ])
 go_cut [32] (fun v32 wc => ∃ (kq : Nat) (x32_4 : Bool), v32 = .bool x32_4 ∧ Aside0 (impl_MarkNear.j0 kq l1 a2 a3 x32_4 a0_0 l0_1 = some (r1, r2)) ∧ Aside0 (kq ≤ k) ∧ Aside0 (wc.heap[gb101]? = some (.cells #[.int .i64 a0_0, (.slice A0_1 l0_1.length c0_1)] 25 (0, 0))) ∧ Aside0 (Below w.heap.size w wc))
 case first =>
  have H := HC5.out; clear HC5; replace H := Option.bind_eq_some_iff.mp H; obtain ⟨t102, A70, H⟩ := H; replace H : (if t102 = true then ((impl_Net_has.f a0_0 l0_1 (([a2, a3] : List Int))).bind fun t106 => (impl_MarkNear.j0 k l1 a2 a3 (!t106) a0_0 l0_1)) else (impl_MarkNear.j0 k l1 a2 a3 true a0_0 l0_1)) = some (r1, r2) := H; have A7 := Aside0.mk A70; clear A70; by_cases c8 : t102 = true
  ·
   subst c8; have H1 : ((impl_Net_has.f a0_0 l0_1 (([a2, a3] : List Int))).bind fun t106 => (impl_MarkNear.j0 k l1 a2 a3 (!t106) a0_0 l0_1)) = some (r1, r2) := by rw [if_pos rfl] at H; exact H
   clear H; have H := H1; clear H1; obtain ⟨y103, hy103⟩ : ∃ y_ : List Int, y_ = (([a2, a3] : List Int)) := ⟨_, rfl⟩
   replace H : ((impl_Net_has.f a0_0 l0_1 y103).bind fun t106 => (impl_MarkNear.j0 k l1 a2 a3 (!t106) a0_0 l0_1)) = some (r1, r2) := by first | (rw [hy103]; with_reducible exact H) | (have H2_ := (Option.bind_some _ _).symm.trans H; rw [hy103]; with_reducible exact H2_) | (have H2_ := (Option.bind_some _ _).symm.trans H; with_reducible exact H2_) | with_reducible exact H | (rw [hy103]; exact H) | exact H
   have Ny103 := Aside0.mk hy103; clear hy103; replace H := Option.bind_eq_some_iff.mp H; obtain ⟨t106, A90, H⟩ := H; replace H : (impl_MarkNear.j0 k l1 a2 a3 (!t106) a0_0 l0_1) = some (r1, r2) := H; have A9 := Aside0.mk A90; clear A90; have H' := Aside0.mk H; clear H; have hcz10_0 : w6.cell? ⟨gb101, 0, none⟩ = some (.int .i64 a0_0) := (blk_cell BK101.out 0).trans rfl; have hcz10_1 : w6.cell? ⟨gb101, 1, none⟩ = some (.slice A0_1 l0_1.length c0_1) := (blk_cell BK101.out 1).trans rfl; have hfz10_0 := blk_frozen BK101.out 0; have hfz10_1 := blk_frozen BK101.out 1; go_wp2_with (first | ((with_reducible refine gate_callee (f := 133) rfl ?_); refine goesL_ (some 23) rfl rfl Try.func133 (by kernel_rfl) rfl #[.agg #[.int .i64 a0_0, .slice A0_1 l0_1.length c0_1], .slice A1 l1.length c1] rfl ul ?_; (with_reducible refine (impl_listOk.calls a0_0 _ _ l0_1 _ _ l1 true _ ?side1 ?side2 ?side3 ?side4 A7.out).mono ?_); (case side1 => exact uC HR0_1 HB); (case side2 => exact HC0_1.out); (case side3 => exact uC HR1 HB); (case side4 => exact HC1.out); rintro e w11 ⟨rfl, hb⟩; refine ⟨_, rfl, ?_⟩; have n0_ := Aside0.mk (blk_below (g := gb101) (o := .cells #[.int .i64 a0_0, .slice A0_1 l0_1.length c0_1] 25 (0, 0)) (ub BK101) hb); have n1_ := Aside0.mk (below_step (uB1 HB GE101.out) hb); clear BK101; clear HB; have BK101 := n0_; have HB := n1_; clear n0_ n1_; (try clear hb); (try clear hb2); (try clear hk); (try clear hi); have hcz12_0 : w11.cell? ⟨gb101, 0, none⟩ = some (.int .i64 a0_0) := (blk_cell BK101.out 0).trans rfl; have hcz12_1 : w11.cell? ⟨gb101, 1, none⟩ = some (.slice A0_1 l0_1.length c0_1) := (blk_cell BK101.out 1).trans rfl; have hfz12_0 := blk_frozen BK101.out 0; have hfz12_1 := blk_frozen BK101.out 1) | ((with_reducible refine gate_dst (N := 29) rfl ?_); refine Kd.R_litW (Kd.int .i64) _ 3 ?hg (N := 29) ?hd (xs := ([a2, a3] : List Int)) (inner := [.int .i64 a2, .int .i64 a3]) (ok := fun _ => True) (okp := fun _ => True) ?hr ?hp (fun _ hk => hk) trivial (Below.refl _ _) (Nat.le_refl _) (by simp) ?_; (case hd => rfl); (case hg => rfl); (case hr => first | (go_simp; done) | (go_simp; rfl)); (case hp => exact (Reps.one (show Kd.M (Kd.int .i64) _ _ _ a2 [.int .i64 a2] from rfl) (Reps.one (show Kd.M (Kd.int .i64) _ _ _ a3 [.int .i64 a3] from rfl) (Reps.none _ _)))); intro v104 w13 ho14 hb hg_ hnew_; clear hg_ hnew_; (first | rw [← Ny103.out] at ho14 | (simp only [Int.reduceToNat] at ho14; rw [← Ny103.out] at ho14)); have n0_ := Aside0.mk (Kd.R_lower ho14 (below_size (uB1 HB GE101.out))); have n1_ := Aside0.mk (blk_below (g := gb101) (o := .cells #[.int .i64 a0_0, .slice A0_1 l0_1.length c0_1] 25 (0, 0)) (ub BK101) hb); have n2_ := Aside0.mk (below_step (uB1 HB GE101.out) hb); clear BK101; clear HB; have HO105 := n0_; have BK101 := n1_; have HB := n2_; clear n0_ n1_ n2_; clear hb ho14; obtain ⟨Ao15, co15, eo15⟩ := Kd.R_slice HO105.out; subst eo15) | (go_at_call 105; (with_reducible refine (impl_Net_has.calls a0_0 _ _ l0_1 _ _ y103 t106 _ ?side1 ?side2 ?side3 ?side4 A9.out).mono ?_); (case side1 => exact uC HR0_1 HB); (case side2 => exact HC0_1.out); (case side3 => exact uD (Kd.R_reads' HO105.out).2.2); (case side4 => exact (Kd.R_reads' HO105.out).2.1); rintro e w16 ⟨rfl, hb⟩; have n0_ := Aside0.mk (Kd.R_below (ur HO105) hb); have n1_ := Aside0.mk (blk_below (g := gb101) (o := .cells #[.int .i64 a0_0, .slice A0_1 l0_1.length c0_1] 25 (0, 0)) (ub BK101) hb); have n2_ := Aside0.mk (below_step (uB1 HB GE101.out) hb); clear HO105; clear BK101; clear HB; have HO105 := n0_; have BK101 := n1_; have HB := n2_; clear n0_ n1_ n2_; (try clear hb); (try clear hb2); (try clear hk); (try clear hi))); go_meet
   case rel => exact ⟨_, (!t106), ue, H', ⟨by first | omega | exact Nat.le_refl _⟩, ⟨ub BK101⟩, ⟨uB1 HB GE101.out⟩⟩
  ·
   replace c8 := Bool.eq_false_iff.mpr c8; subst c8; have H1 : (impl_MarkNear.j0 k l1 a2 a3 true a0_0 l0_1) = some (r1, r2) := by rw [if_neg (show ¬ (false = true) by decide)] at H; exact H
   clear H; have H := H1; clear H1; have H' := Aside0.mk H; clear H; have hcz17_0 : w6.cell? ⟨gb101, 0, none⟩ = some (.int .i64 a0_0) := (blk_cell BK101.out 0).trans rfl; have hcz17_1 : w6.cell? ⟨gb101, 1, none⟩ = some (.slice A0_1 l0_1.length c0_1) := (blk_cell BK101.out 1).trans rfl; have hfz17_0 := blk_frozen BK101.out 0; have hfz17_1 := blk_frozen BK101.out 1; go_wp2_with (first | ((with_reducible refine gate_callee (f := 133) rfl ?_); refine goesL_ (some 23) rfl rfl Try.func133 (by kernel_rfl) rfl #[.agg #[.int .i64 a0_0, .slice A0_1 l0_1.length c0_1], .slice A1 l1.length c1] rfl ul ?_; (with_reducible refine (impl_listOk.calls a0_0 _ _ l0_1 _ _ l1 false _ ?side1 ?side2 ?side3 ?side4 A7.out).mono ?_); (case side1 => exact uC HR0_1 HB); (case side2 => exact HC0_1.out); (case side3 => exact uC HR1 HB); (case side4 => exact HC1.out); rintro e w18 ⟨rfl, hb⟩; refine ⟨_, rfl, ?_⟩; have n0_ := Aside0.mk (blk_below (g := gb101) (o := .cells #[.int .i64 a0_0, .slice A0_1 l0_1.length c0_1] 25 (0, 0)) (ub BK101) hb); have n1_ := Aside0.mk (below_step (uB1 HB GE101.out) hb); clear BK101; clear HB; have BK101 := n0_; have HB := n1_; clear n0_ n1_; (try clear hb); (try clear hb2); (try clear hk); (try clear hi))); go_meet
   case rel => exact ⟨_, (true), ue, H', ⟨by first | omega | exact Nat.le_refl _⟩, ⟨ub BK101⟩, ⟨uB1 HB GE101.out⟩⟩
 case rest =>
  clear HC5; try clear c1
  try clear p2
  try clear c8
  try clear c13
  try clear hcz10_0
  try clear hcz10_1
  try clear hcz12_0
  try clear hcz12_1
  try clear hcz17_0
  try clear hcz17_1
  try clear hfz10_0
  try clear hfz10_1
  try clear hfz12_0
  try clear hfz12_1
  try clear hfz17_0
  try clear hfz17_1
  obtain ⟨kq, x32_4, rfl, HA, HJ4, BK101, HB⟩ := hcut
  cases kq with
  | zero => exact absurd HA.out (by simp [impl_MarkNear.j0])
  | succ kj4 =>
   have H := HA.out; clear HA; simp only [impl_MarkNear.j0] at H; by_cases c19 : x32_4 = true
   ·
    subst c19; have H1 : (some ((-1), (-1))) = some (r1, r2) := by rw [if_pos rfl] at H; exact H
    clear H; have H := H1; clear H1; simp only [Option.some.injEq, Prod.mk.injEq] at H; obtain ⟨rfl, rfl⟩ := H; go_wp2; go_ret2; exact ⟨ux, uB1 HB GE101.out⟩
   ·
    replace c19 := Bool.eq_false_iff.mpr c19; subst c19; have H1 : ((impl_Net_table.f kj4 a0_0 l0_1).bind fun t107 => ((slices_Repeat_int.f (([99999] : List Int)) a0_0).bind fun t113 => (if 0 ≤ a2 then (if a2 < (t113.length : Int) then (if 0 ≤ a0_0 then (if (a0_0 : Int).toNat ≤ 281474976710656 then (impl_MarkNear.l0 kj4 l1 a3 t107 (t113.set (a2 : Int).toNat 0) (List.replicate (a0_0 : Int).toNat false) 0 a0_0 l0_1) else (none)) else (none)) else (none)) else (none)))) = some (r1, r2) := by rw [if_neg (show ¬ (false = true) by decide)] at H; exact H
    clear H; have H := H1; clear H1; replace H := Option.bind_eq_some_iff.mp H; obtain ⟨t107, A200, H⟩ := H; replace H : ((slices_Repeat_int.f (([99999] : List Int)) a0_0).bind fun t113 => (if 0 ≤ a2 then (if a2 < (t113.length : Int) then (if 0 ≤ a0_0 then (if (a0_0 : Int).toNat ≤ 281474976710656 then (impl_MarkNear.l0 kj4 l1 a3 t107 (t113.set (a2 : Int).toNat 0) (List.replicate (a0_0 : Int).toNat false) 0 a0_0 l0_1) else (none)) else (none)) else (none)) else (none))) = some (r1, r2) := H; have A20 := Aside0.mk A200; clear A200; obtain ⟨y110, hy110⟩ : ∃ y_ : List Int, y_ = (([99999] : List Int)) := ⟨_, rfl⟩
    replace H : ((slices_Repeat_int.f y110 a0_0).bind fun t113 => (if 0 ≤ a2 then (if a2 < (t113.length : Int) then (if 0 ≤ a0_0 then (if (a0_0 : Int).toNat ≤ 281474976710656 then (impl_MarkNear.l0 kj4 l1 a3 t107 (t113.set (a2 : Int).toNat 0) (List.replicate (a0_0 : Int).toNat false) 0 a0_0 l0_1) else (none)) else (none)) else (none)) else (none))) = some (r1, r2) := by first | (rw [hy110]; with_reducible exact H) | (have H2_ := (Option.bind_some _ _).symm.trans H; rw [hy110]; with_reducible exact H2_) | (have H2_ := (Option.bind_some _ _).symm.trans H; with_reducible exact H2_) | with_reducible exact H | (rw [hy110]; exact H) | exact H
    have Ny110 := Aside0.mk hy110; clear hy110; replace H := Option.bind_eq_some_iff.mp H; obtain ⟨t113, A210, H⟩ := H; replace H : (if 0 ≤ a2 then (if a2 < (t113.length : Int) then (if 0 ≤ a0_0 then (if (a0_0 : Int).toNat ≤ 281474976710656 then (impl_MarkNear.l0 kj4 l1 a3 t107 (t113.set (a2 : Int).toNat 0) (List.replicate (a0_0 : Int).toNat false) 0 a0_0 l0_1) else (none)) else (none)) else (none)) else (none)) = some (r1, r2) := H; have A21 := Aside0.mk A210; clear A210; by_cases c22 : 0 ≤ a2
    ·
     rw [if_pos c22] at H; have c22b0 : decide (0 ≤ a2) = true := decide_eq_true c22; clear c22; by_cases c23 : a2 < (t113.length : Int)
     ·
      rw [if_pos c23] at H; have c23b0 : decide (a2 < (t113.length : Int)) = true := decide_eq_true c23; clear c23; obtain ⟨y116, hy116⟩ : ∃ y_ : List Int, y_ = (t113.set (a2 : Int).toNat 0) := ⟨_, rfl⟩
      replace H : (if 0 ≤ a0_0 then (if (a0_0 : Int).toNat ≤ 281474976710656 then (impl_MarkNear.l0 kj4 l1 a3 t107 y116 (List.replicate (a0_0 : Int).toNat false) 0 a0_0 l0_1) else (none)) else (none)) = some (r1, r2) := by first | (rw [hy116]; with_reducible exact H) | (have H2_ := (Option.bind_some _ _).symm.trans H; rw [hy116]; with_reducible exact H2_) | (have H2_ := (Option.bind_some _ _).symm.trans H; with_reducible exact H2_) | with_reducible exact H | (rw [hy116]; exact H) | exact H
      have Ny116 := Aside0.mk hy116; clear hy116; by_cases c25 : 0 ≤ a0_0
      ·
       rw [if_pos c25] at H; have c25b0 := eq_true c25; have c25b1 : decide (0 ≤ a0_0) = true := decide_eq_true c25; clear c25; by_cases c26 : (a0_0 : Int).toNat ≤ 281474976710656
       ·
        rw [if_pos c26] at H; have c26b0 := eq_true c26; have c26b1 : decide ((a0_0 : Int).toNat ≤ 281474976710656) = true := decide_eq_true c26; clear c26; obtain ⟨y117, hy117⟩ : ∃ y_ : List Bool, y_ = (List.replicate (a0_0 : Int).toNat false) := ⟨_, rfl⟩
        replace H : (impl_MarkNear.l0 kj4 l1 a3 t107 y116 y117 0 a0_0 l0_1) = some (r1, r2) := by first | (rw [hy117]; with_reducible exact H) | (have H2_ := (Option.bind_some _ _).symm.trans H; rw [hy117]; with_reducible exact H2_) | (have H2_ := (Option.bind_some _ _).symm.trans H; with_reducible exact H2_) | with_reducible exact H | (rw [hy117]; exact H) | exact H
        have Ny117 := Aside0.mk hy117; clear hy117; have H' := Aside0.mk H; clear H; have hcz27_0 : wc.cell? ⟨gb101, 0, none⟩ = some (.int .i64 a0_0) := (blk_cell BK101.out 0).trans rfl; have hcz27_1 : wc.cell? ⟨gb101, 1, none⟩ = some (.slice A0_1 l0_1.length c0_1) := (blk_cell BK101.out 1).trans rfl; have hfz27_0 := blk_frozen BK101.out 0; have hfz27_1 := blk_frozen BK101.out 1; go_wp2_with (first | ((with_reducible refine gate_callee (f := 125) rfl ?_); refine goesL_ (some 34) rfl rfl Try.func125 (by kernel_rfl) rfl #[.agg #[.int .i64 a0_0, .slice A0_1 l0_1.length c0_1]] rfl ul ?_; (with_reducible refine (impl_Net_table.calls kj4 a0_0 _ _ l0_1 t107 _ ?side1 ?side2 A20.out).mono ?_); (case side1 => exact uC HR0_1 HB); (case side2 => exact HC0_1.out); rintro e w28 ⟨v108, rfl, ho0, hb⟩; refine ⟨_, rfl, ?_⟩; have n0_ := Aside0.mk (Kd.S_lower ho0 (below_size (uB1 HB GE101.out))); have n1_ := Aside0.mk (blk_below (g := gb101) (o := .cells #[.int .i64 a0_0, .slice A0_1 l0_1.length c0_1] 25 (0, 0)) (ub BK101) hb); have n2_ := Aside0.mk (below_step (uB1 HB GE101.out) hb); clear BK101; clear HB; have HO109 := n0_; have BK101 := n1_; have HB := n2_; clear n0_ n1_ n2_; (try clear hb); (try clear hb2); (try clear hk); (try clear hi); (try clear ho0)) | ((with_reducible refine gate_dst (N := 35) rfl ?_); refine Kd.R_litW (Kd.int .i64) _ 3 ?hg (N := 35) ?hd (xs := ([99999] : List Int)) (inner := [.int .i64 99999]) (ok := fun _ => True) (okp := fun _ => True) ?hr ?hp (fun _ hk => hk) trivial (Below.refl _ _) (Nat.le_refl _) (by simp) ?_; (case hd => rfl); (case hg => rfl); (case hr => first | (go_simp; done) | (go_simp; rfl)); (case hp => exact (Reps.one (show Kd.M (Kd.int .i64) _ _ _ 99999 [.int .i64 99999] from rfl) (Reps.none _ _))); intro v111 w29 ho30 hb hg_ hnew_; clear hg_ hnew_; (first | rw [← Ny110.out] at ho30 | (simp only [Int.reduceToNat] at ho30; rw [← Ny110.out] at ho30)); have n0_ := Aside0.mk (Kd.S_elder' (by (with_reducible repeat (first | apply Kd.S_alloc | apply Kd.S_drewN | apply Kd.S_drew)); exact HO109.out) (Kd.R_base ho30) hb); have n1_ := Aside0.mk (Kd.R_lower ho30 (below_size (uB1 HB GE101.out))); have n2_ := Aside0.mk (blk_below (g := gb101) (o := .cells #[.int .i64 a0_0, .slice A0_1 l0_1.length c0_1] 25 (0, 0)) (ub BK101) hb); have n3_ := Aside0.mk (below_step (uB1 HB GE101.out) hb); clear HO109; clear BK101; clear HB; have HO109 := n0_; have HO112 := n1_; have BK101 := n2_; have HB := n3_; clear n0_ n1_ n2_ n3_; clear hb ho30; have hcz31_0 : w29.cell? ⟨gb101, 0, none⟩ = some (.int .i64 a0_0) := (blk_cell BK101.out 0).trans rfl; have hcz31_1 : w29.cell? ⟨gb101, 1, none⟩ = some (.slice A0_1 l0_1.length c0_1) := (blk_cell BK101.out 1).trans rfl; have hfz31_0 := blk_frozen BK101.out 0; have hfz31_1 := blk_frozen BK101.out 1; obtain ⟨Ao32, co32, eo32⟩ := Kd.R_slice HO112.out; subst eo32) | ((with_reducible refine gate_callee (f := 142) rfl ?_); refine goesL_ (some 38) rfl rfl Try.func142 (by kernel_rfl) rfl #[.slice Ao32 y110.length co32, .int .i64 a0_0] rfl ul ?_; (with_reducible refine (slices_Repeat_int.calls _ _ y110 a0_0 t113 _ ?side1 ?side2 A21.out).mono ?_); (case side1 => exact uD (Kd.R_reads' HO112.out).2.2); (case side2 => exact (Kd.R_reads' HO112.out).2.1); rintro e w33 ⟨v114, rfl, ho0, hb⟩; refine ⟨_, rfl, ?_⟩; have n0_ := Aside0.mk (Kd.S_elder' (by (with_reducible repeat (first | apply Kd.S_alloc | apply Kd.S_drewN | apply Kd.S_drew)); exact HO109.out) (Kd.R_base ho0) hb); have n1_ := Aside0.mk (Kd.R_elder' (ur HO112) (Kd.R_base ho0) hb); have n2_ := Aside0.mk (Kd.R_lower (Kd.R_new' ho0 (Kd.R_lt (ur HO112))) (below_size (uB1 HB GE101.out))); have n3_ := Aside0.mk (blk_below (g := gb101) (o := .cells #[.int .i64 a0_0, .slice A0_1 l0_1.length c0_1] 25 (0, 0)) (ub BK101) hb); have n4_ := Aside0.mk (below_step (uB1 HB GE101.out) hb); clear HO109; clear HO112; clear BK101; clear HB; have HO109 := n0_; have HO112 := n1_; have HO115 := n2_; have BK101 := n3_; have HB := n4_; clear n0_ n1_ n2_ n3_ n4_; (try clear hb); (try clear hb2); (try clear hk); (try clear hi); (try clear ho0); have p24 : 0 ≤ (a2 : Int) := ua; have q24 : (a2 : Int) < ((t113.length : Int) : Int) := ua; obtain ⟨go24, co24, eo24, gb24, gl24, cl24, HG24⟩ := Kd.R_form HO115.out (by omega); (first | cases eo24 | (injection eo24 with ea_ en_ ec_; (first | subst ea_ | (injection ea_ with ea_; subst ea_)); subst ec_; clear en_)); have GB24 := Aside0.mk gb24; have GG24 := Aside0.mk HG24; clear gb24 gl24 HG24; obtain ⟨hx24_0, hf24_0⟩ := Kd.R_celln 0 HO115.out (a2 : Int) p24 q24; replace p24 := eq_true p24; replace q24 := eq_true q24; have n_ := Aside0.mk (Kd.R_mono (ok' := (fun k_ => some k_ ≠ (.slice Ao32 y110.length co32 : Value).ownBlock)) HO115.out (fun k_ hk => hk.2)); clear HO115; have HO115 := n_; clear n_; obtain ⟨hy34_, hz34_⟩ := Kd.R_celln 0 HO115.out (a2 : Int) (ua) (ua); have HP34 := Kd.R_putg HO115.out (a2 : Int) 0) | ((with_reducible refine gate_store (t := 3) (p := 41) rfl ?_); refine store_event (t := 3) (p := 41) (v := ?vo_w35) (w1 := (w33.setCell ⟨go24, (a2 : Int).toNat, none⟩ (.int .i64 0))) ?hg ?ho ?hn ?hr ?_; (case ho => rfl); (case hg => rfl); (case hn => rfl); (case hr => first | (go_simp; done) | (go_simp; rfl)); intro w35 hw; have hg : w33.grownBy w35 (some go24) := (by rw [hw]; exact HP34.2); have hp_ : Kd.R (Kd.int .i64) 3 w35 w.heap.size (fun k_ => some k_ ≠ (.slice Ao32 y110.length co32 : Value).ownBlock) (.slice (some ⟨go24, 0, none⟩) t113.length co24) y116 := (by rw [hw, Ny116.out]; exact HP34.1); clear HP34; have n0_ := Aside0.mk (blk_grown (g := gb101) (o := .cells #[.int .i64 a0_0, .slice A0_1 l0_1.length c0_1] 25 (0, 0)) (ub BK101) hg (Kd.R_ne HO115.out BK101.out (by decide))); have n1_ := Aside0.mk (Kd.S_after (v := (.slice (some ⟨go24, 0, none⟩) t113.length co24)) (v1 := (.slice (some ⟨go24, 0, none⟩) t113.length co24)) (ok := (fun k_ => some k_ ≠ (.slice Ao32 y110.length co32 : Value).ownBlock)) (by (with_reducible repeat (first | apply Kd.S_alloc | apply Kd.S_drewN | apply Kd.S_drew)); exact Kd.S_mono HO109.out (fun _ hk => ⟨hk.1.2, hk.2⟩)) hg (.inl rfl)); have n2_ := Aside0.mk (Kd.R_after (v := (.slice (some ⟨go24, 0, none⟩) t113.length co24)) (v1 := (.slice (some ⟨go24, 0, none⟩) t113.length co24)) (ok := (fun _ => True)) (ur HO112) hg (.inl rfl)); have n3_ := Aside0.mk (hp_); have n4_ := Aside0.mk ((by rw [hw]; exact below_set (HB.out) GB24.out : Below w.heap.size w w35)); clear BK101; clear HO109; clear HO112; clear HO115; clear HB; have BK101 := n0_; have HO109 := n1_; have HO112 := n2_; have HO115 := n3_; have HB := n4_; clear n0_ n1_ n2_ n3_ n4_; clear hg hw hp_; have hcz36_0 : w35.cell? ⟨gb101, 0, none⟩ = some (.int .i64 a0_0) := (blk_cell BK101.out 0).trans rfl; have hcz36_1 : w35.cell? ⟨gb101, 1, none⟩ = some (.slice A0_1 l0_1.length c0_1) := (blk_cell BK101.out 1).trans rfl; have hfz36_0 := blk_frozen BK101.out 0; have hfz36_1 := blk_frozen BK101.out 1) | ((with_reducible refine gate_dst (N := 44) rfl ?_); refine Kd.R_make Kd.bool _ 4 rfl (N := 44) rfl 111 _ _ rfl a0_0 rfl rfl Try.underlying111 (.bool false) 1 info4 rfl (by decide) (by omega) false (ok := fun _ => True) (okp := fun _ => True) rfl (fun _ hk => hk) trivial (ua) (Nat.le_trans (Nat.mul_le_mul_right _ (ua : a0_0.toNat ≤ 281474976710656)) (by omega)) (Below.refl _ _) (Nat.le_refl _) ?_; intro v118 w37 ho38 hb hg_ hnew_; clear hg_ hnew_; (first | rw [← Ny117.out] at ho38 | (simp only [Int.reduceToNat] at ho38; rw [← Ny117.out] at ho38)); have n0_ := Aside0.mk (Kd.S_below (by (with_reducible repeat (first | apply Kd.S_alloc | apply Kd.S_drewN | apply Kd.S_drew)); exact HO109.out) hb); have n1_ := Aside0.mk (Kd.R_below (ur HO112) hb); have n2_ := Aside0.mk (Kd.R_below (ur HO115) hb); have n3_ := Aside0.mk (Kd.R_lower ho38 (below_size (uB1 HB GE101.out))); have n4_ := Aside0.mk (blk_below (g := gb101) (o := .cells #[.int .i64 a0_0, .slice A0_1 l0_1.length c0_1] 25 (0, 0)) (ub BK101) hb); have n5_ := Aside0.mk (below_step (uB1 HB GE101.out) hb); clear HO109; clear HO112; clear HO115; clear BK101; clear HB; have HO109 := n0_; have HO112 := n1_; have HO115 := n2_; have HO119 := n3_; have BK101 := n4_; have HB := n5_; clear n0_ n1_ n2_ n3_ n4_ n5_; clear hb ho38)); go_loopg [13] kj4 (fun kq v13 w' => ∃ (x11_2 : List Int) (x12_2 : List Bool) (x13_2 : Int), v13 = .int .i64 x13_2 ∧ Aside0 (impl_MarkNear.l0 kq l1 a3 t107 x11_2 x12_2 x13_2 a0_0 l0_1 = some (r1, r2)) ∧ Aside0 (kq ≤ kj4) ∧ Aside0 (Kd.S (Kd.slice 3 (Kd.int .i64)) 28 w' w.heap.size (fun k_ => some k_ ≠ ((.slice (some ⟨go24, 0, none⟩) t113.length co24) : Value).ownBlock) v108 t107) ∧ Aside0 (Kd.R (Kd.int .i64) 3 w' w.heap.size (fun _ => True) (.slice (some ⟨go24, 0, none⟩) t113.length co24) x11_2) ∧ Aside0 (Kd.R Kd.bool 4 w' w.heap.size (fun _ => True) v118 x12_2) ∧ Aside0 (w'.heap[gb101]? = some (.cells #[.int .i64 a0_0, (.slice A0_1 l0_1.length c0_1)] 25 (0, 0))) ∧ Aside0 (Below w.heap.size w w'))
        case atStart => exact ⟨(y116), (y117), (0), ue, H', ⟨Nat.le_refl _⟩, ⟨by (with_reducible repeat (first | apply Kd.S_alloc | apply Kd.S_drewN | apply Kd.S_drew)); exact Kd.S_mono HO109.out (fun _ hk => hk.2)⟩, ⟨by (with_reducible repeat (first | apply Kd.R_alloc | apply Kd.R_drewN | apply Kd.R_drew)); exact Kd.R_mono HO115.out (fun _ hk => trivial)⟩, ⟨ur HO119⟩, ⟨ub BK101⟩, ⟨uB1 HB GE101.out⟩⟩
        case round =>
         clear H'; try clear c1
         try clear c2
         try clear p2
         try clear q2
         try clear hx2
         try clear c8
         try clear c12
         try clear c13
         try clear c14
         try clear c19
         try clear c22
         try clear c22b0
         try clear c23
         try clear c23b0
         try clear p24
         try clear q24
         try clear hx24
         try clear hf24
         try clear c25
         try clear c25b0
         try clear c25b1
         try clear c26
         try clear c26b0
         try clear c26b1
         try clear hcz10_0
         try clear hcz10_1
         try clear hcz12_0
         try clear hcz12_1
         try clear hcz17_0
         try clear hcz17_1
         try clear hcz27_0
         try clear hcz27_1
         try clear hcz31_0
         try clear hcz31_1
         try clear hcz36_0
         try clear hcz36_1
         try clear hfz10_0
         try clear hfz10_1
         try clear hfz12_0
         try clear hfz12_1
         try clear hfz17_0
         try clear hfz17_1
         try clear hfz27_0
         try clear hfz27_1
         try clear hfz31_0
         try clear hfz31_1
         try clear hfz36_0
         try clear hfz36_1
         try clear hx24_0
         try clear p2
         try clear p24
         try clear q24
         obtain ⟨x11_2, x12_2, x13_2, rfl, HA, HK2, HO_10, HO_11, HO_12, BK101, HB⟩ := hrel; have hl11_2 := (Kd.R_reads' HO_11.out).1; rw [hl11_2] at HO_11; (try simp only [hl11_2]); (try simp only [hl11_2] at BK101); (try simp only [hl11_2] at HO_10); (try simp only [hl11_2] at HO_12)
         cases gk with
         | zero => exact absurd HA.out (by simp [impl_MarkNear.l0])
         | succ k2 =>
          have H := HA.out; clear HA; simp only [impl_MarkNear.l0] at H; have H' := Aside0.mk H; clear H; go_wp2; go_loopg [14, 15, 47] k2 (fun kq v14 v15 v47 w' => ∃ (x14_3 : Int) (x15_3 : Int) (x47_3 : Int), v14 = .int .i64 x14_3 ∧ v15 = .int .i64 x15_3 ∧ v47 = .int .i64 x47_3 ∧ Aside0 (impl_MarkNear.l1 kq l1 a3 t107 x11_2 x12_2 x13_2 x14_3 x15_3 x11_2 (x11_2.length : Int) x47_3 a0_0 l0_1 = some (r1, r2)) ∧ Aside0 (kq ≤ k2) ∧ Aside0 (Kd.S (Kd.slice 3 (Kd.int .i64)) 28 w' w.heap.size (fun k_ => some k_ ≠ ((.slice (some ⟨go24, 0, none⟩) x11_2.length co24) : Value).ownBlock ∧ some k_ ≠ ((.slice (some ⟨go24, 0, none⟩) x11_2.length co24) : Value).ownBlock) v108 t107) ∧ Aside0 (Kd.R (Kd.int .i64) 3 w' w.heap.size (fun _ => True) (.slice (some ⟨go24, 0, none⟩) x11_2.length co24) x11_2) ∧ Aside0 (Kd.R Kd.bool 4 w' w.heap.size (fun _ => True) v118 x12_2) ∧ Aside0 (Kd.R (Kd.int .i64) 3 w' w.heap.size (fun _ => True) (.slice (some ⟨go24, 0, none⟩) x11_2.length co24) x11_2) ∧ Aside0 (w'.heap[gb101]? = some (.cells #[.int .i64 a0_0, (.slice A0_1 l0_1.length c0_1)] 25 (0, 0))) ∧ Aside0 (Below w.heap.size w w'))
          case atStart => exact ⟨((-1)), (0), (0), ue, ue, ue, H', ⟨Nat.le_refl _⟩, ⟨by (try simp only [hl11_2]); (with_reducible repeat (first | apply Kd.S_alloc | apply Kd.S_drewN | apply Kd.S_drew)); exact Kd.S_mono HO_10.out (fun _ hk => ⟨hk, hk⟩)⟩, ⟨by (try simp only [hl11_2]); exact ur HO_11⟩, ⟨by (try simp only [hl11_2]); exact ur HO_12⟩, ⟨by (try simp only [hl11_2]); exact ur HO_11⟩, ⟨by (try simp only [hl11_2]); exact ub BK101⟩, ⟨uB1 HB GE101.out⟩⟩
          case round =>
           clear H'; try clear c1
           try clear c2
           try clear p2
           try clear q2
           try clear hx2
           try clear c8
           try clear c12
           try clear c13
           try clear c14
           try clear c19
           try clear c22
           try clear c22b0
           try clear c23
           try clear c23b0
           try clear p24
           try clear q24
           try clear hx24
           try clear hf24
           try clear c25
           try clear c25b0
           try clear c25b1
           try clear c26
           try clear c26b0
           try clear c26b1
           try clear hcz10_0
           try clear hcz10_1
           try clear hcz12_0
           try clear hcz12_1
           try clear hcz17_0
           try clear hcz17_1
           try clear hcz27_0
           try clear hcz27_1
           try clear hcz31_0
           try clear hcz31_1
           try clear hcz36_0
           try clear hcz36_1
           try clear hfz10_0
           try clear hfz10_1
           try clear hfz12_0
           try clear hfz12_1
           try clear hfz17_0
           try clear hfz17_1
           try clear hfz27_0
           try clear hfz27_1
           try clear hfz31_0
           try clear hfz31_1
           try clear hfz36_0
           try clear hfz36_1
           try clear hx24_0
           try clear p2
           try clear p24
           try clear q2
           try clear q24
           obtain ⟨x14_3, x15_3, x47_3, rfl, rfl, rfl, HA, HK3, HO_10, HO_11, HO_12, HO_45, BK101, HB⟩ := hrel
           cases gk with
           | zero => exact absurd HA.out (by simp [impl_MarkNear.l1])
           | succ k3 =>
            have H := HA.out; clear HA; simp only [impl_MarkNear.l1] at H; by_cases c39 : x47_3 < (x11_2.length : Int)
            ·
             rw [if_pos c39] at H; have c39b0 : decide (x47_3 < (x11_2.length : Int)) = true := decide_eq_true c39; clear c39; by_cases c40 : 0 ≤ x47_3
             ·
              rw [if_pos c40] at H; have c40b0 : decide (0 ≤ x47_3) = true := decide_eq_true c40; clear c40; by_cases c41 : x47_3 < (x11_2.length : Int)
              ·
               rw [if_pos c41] at H; have c41b0 : decide (x47_3 < (x11_2.length : Int)) = true := decide_eq_true c41; clear c41; replace H := Option.bind_eq_some_iff.mp H; obtain ⟨t121, A420, H⟩ := H; replace H : (if (rd x11_2 x47_3) = 99999 then (impl_MarkNear.j3 k3 l1 a3 t107 x11_2 x12_2 x13_2 x14_3 x15_3 x47_3 (rd x11_2 x47_3) t121 x11_2 (x11_2.length : Int) x47_3 true a0_0 l0_1) else (if x47_3 < (x12_2.length : Int) then (if rdOf false x12_2 x47_3 = true then (impl_MarkNear.j3 k3 l1 a3 t107 x11_2 x12_2 x13_2 x14_3 x15_3 x47_3 (rd x11_2 x47_3) t121 x11_2 (x11_2.length : Int) x47_3 true a0_0 l0_1) else (impl_MarkNear.j3 k3 l1 a3 t107 x11_2 x12_2 x13_2 x14_3 x15_3 x47_3 (rd x11_2 x47_3) t121 x11_2 (x11_2.length : Int) x47_3 (t121 == 99999) a0_0 l0_1)) else (none))) = some (r1, r2) := H; have A42 := Aside0.mk A420; clear A420; have HC43 := Aside0.mk H; clear H; have p120 : 0 ≤ (x47_3 : Int) := ua; have q120 : x47_3 < (x11_2.length : Int) := ua; obtain ⟨ad120, e120, hx120_0⟩ := Kd.at_int (Kd.R_reads' HO_45.out).2.2 x47_3 p120 q120; obtain rfl : (⟨go24, 0, none⟩ : Addr) = ad120 := (by injection e120)
               (first | simp only [add_plain] at hx120_0 | simp only [add_at] at hx120_0 | simp only [Addr.add, Nat.zero_add] at hx120_0 | skip); replace p120 := eq_true p120; replace q120 := eq_true q120; obtain ⟨Ao44, co44, eo44⟩ := Kd.S_slice HO_10.out; subst eo44; go_upto_region 13 with (first | ((with_reducible refine gate_callee (f := 135) rfl ?_); refine goesL_ (some 56) rfl rfl Try.func135 (by kernel_rfl) rfl #[.slice Ao44 t107.length co44, .slice A1 l1.length c1, .int .i64 x47_3, .int .i64 a3] rfl ul ?_; (with_reducible refine (impl_bound.calls k3 _ _ t107 _ _ l1 x47_3 a3 t121 _ ?side1 ?side2 ?side3 ?side4 A42.out).mono ?_); (case side1 => repeat (first | exact (Kd.S_reads' HO_10.out).2.2 | (with_reducible refine Kd.C_alloc ?_ _) | (with_reducible refine Kd.C_drewN ?_ _) | (with_reducible refine Kd.C_drew ?_))); (case side2 => exact (Kd.S_reads' HO_10.out).2.1); (case side3 => exact uC HR1 HB); (case side4 => exact HC1.out); rintro e w45 ⟨rfl, hb⟩; refine ⟨_, rfl, ?_⟩; have n0_ := Aside0.mk (Kd.S_below (by (with_reducible repeat (first | apply Kd.S_alloc | apply Kd.S_drewN | apply Kd.S_drew)); exact HO_10.out) hb); have n1_ := Aside0.mk (Kd.R_below (ur HO_11) hb); have n2_ := Aside0.mk (Kd.R_below (ur HO_12) hb); have n3_ := Aside0.mk (Kd.R_below (ur HO_45) hb); have n4_ := Aside0.mk (blk_below (g := gb101) (o := .cells #[.int .i64 a0_0, .slice A0_1 l0_1.length c0_1] 25 (0, 0)) (ub BK101) hb); have n5_ := Aside0.mk (below_step (uB1 HB GE101.out) hb); clear HO_10; clear HO_11; clear HO_12; clear HO_45; clear BK101; clear HB; have HO_10 := n0_; have HO_11 := n1_; have HO_12 := n2_; have HO_45 := n3_; have BK101 := n4_; have HB := n5_; clear n0_ n1_ n2_ n3_ n4_ n5_; (try clear hb); (try clear hb2); (try clear hk); (try clear hi)))
               (try simp only [Act.put, List.setIfInBounds_toArray, List.set_cons_zero, List.set_cons_succ]); go_cut [68] (fun v68 wc => ∃ (kq : Nat) (x68_42 : Bool), v68 = .bool x68_42 ∧ Aside0 (impl_MarkNear.j3 kq l1 a3 t107 x11_2 x12_2 x13_2 x14_3 x15_3 x47_3 (rd x11_2 x47_3) t121 x11_2 (x11_2.length : Int) x47_3 x68_42 a0_0 l0_1 = some (r1, r2)) ∧ Aside0 (kq ≤ k3) ∧ Aside0 (Kd.S (Kd.slice 3 (Kd.int .i64)) 28 wc w.heap.size (fun k_ => some k_ ≠ ((.slice (some ⟨go24, 0, none⟩) x11_2.length co24) : Value).ownBlock ∧ some k_ ≠ ((.slice (some ⟨go24, 0, none⟩) x11_2.length co24) : Value).ownBlock) (.slice Ao44 t107.length co44) t107) ∧ Aside0 (Kd.R (Kd.int .i64) 3 wc w.heap.size (fun _ => True) (.slice (some ⟨go24, 0, none⟩) x11_2.length co24) x11_2) ∧ Aside0 (Kd.R Kd.bool 4 wc w.heap.size (fun _ => True) v118 x12_2) ∧ Aside0 (Kd.R (Kd.int .i64) 3 wc w.heap.size (fun _ => True) (.slice (some ⟨go24, 0, none⟩) x11_2.length co24) x11_2) ∧ Aside0 (wc.heap[gb101]? = some (.cells #[.int .i64 a0_0, (.slice A0_1 l0_1.length c0_1)] 25 (0, 0))) ∧ Aside0 (Below w.heap.size w wc))
               case first =>
                have H := HC43.out; clear HC43; by_cases c46 : (rd x11_2 x47_3) = 99999
                ·
                 rw [if_pos c46] at H; have c46b0 : ((rd x11_2 x47_3) == 99999) = true := beq_iff_eq.mpr c46; have c46b1 : ((rd x11_2 x47_3) != 99999) = false := bne_eq_false_iff_eq.mpr c46; clear c46; (first | rw [c46b0] | (simp only [i64_w, i32_w]; rw [c46b0]) | skip); have H' := Aside0.mk H; clear H; go_wp2; go_meet
                 case rel => exact ⟨_, (true), ue, H', ⟨by have := HJ4.out; have := HK2.out; have := HK3.out; first | omega | exact Nat.le_refl _⟩, ⟨by (try simp only [hl11_2]); (with_reducible repeat (first | apply Kd.S_alloc | apply Kd.S_drewN | apply Kd.S_drew)); exact HO_10.out⟩, ⟨by (try simp only [hl11_2]); exact ur HO_11⟩, ⟨by (try simp only [hl11_2]); exact ur HO_12⟩, ⟨by (try simp only [hl11_2]); exact ur HO_45⟩, ⟨by (try simp only [hl11_2]); exact ub BK101⟩, ⟨uB1 HB GE101.out⟩⟩
                ·
                 rw [if_neg c46] at H; have c46b0 : ((rd x11_2 x47_3) == 99999) = false := beq_eq_false_iff_ne.mpr c46; have c46b1 : ((rd x11_2 x47_3) != 99999) = true := bne_iff_ne.mpr c46; (first | rw [c46b0] | (simp only [i64_w, i32_w]; rw [c46b0]) | skip); by_cases c47 : x47_3 < (x12_2.length : Int)
                 ·
                  rw [if_pos c47] at H; have c47b0 : decide (x47_3 < (x12_2.length : Int)) = true := decide_eq_true c47; clear c47; obtain ⟨bq48, hbq48⟩ : ∃ b_ : Bool, b_ = (rdOf false x12_2 x47_3) := ⟨_, rfl⟩
                  replace H : (if bq48 = true then (impl_MarkNear.j3 k3 l1 a3 t107 x11_2 x12_2 x13_2 x14_3 x15_3 x47_3 (rd x11_2 x47_3) t121 x11_2 (x11_2.length : Int) x47_3 true a0_0 l0_1) else (impl_MarkNear.j3 k3 l1 a3 t107 x11_2 x12_2 x13_2 x14_3 x15_3 x47_3 (rd x11_2 x47_3) t121 x11_2 (x11_2.length : Int) x47_3 (t121 == 99999) a0_0 l0_1)) = some (r1, r2) := by rw [← hbq48] at H; exact H
                  have Nbq48 := Aside0.mk hbq48; clear hbq48; by_cases c49 : bq48 = true
                  ·
                   subst c49; have H1 : (impl_MarkNear.j3 k3 l1 a3 t107 x11_2 x12_2 x13_2 x14_3 x15_3 x47_3 (rd x11_2 x47_3) t121 x11_2 (x11_2.length : Int) x47_3 true a0_0 l0_1) = some (r1, r2) := by rw [if_pos rfl] at H; exact H
                   clear H; have H := H1; clear H1; have H' := Aside0.mk H; clear H; obtain ⟨Ao50, co50, eo50⟩ := Kd.R_slice HO_12.out; subst eo50; have p122 : 0 ≤ (x47_3 : Int) := ua; have q122 : x47_3 < (x12_2.length : Int) := ua; obtain ⟨ad122, e122, hx122_0⟩ := Kd.at_bool (Kd.R_reads' HO_12.out).2.2 x47_3 p122 q122; (try rw [← Nbq48.out] at hx122_0)
                   cases e122
                   replace p122 := eq_true p122; replace q122 := eq_true q122; go_wp2; go_meet
                   case rel => exact ⟨_, (true), ue, H', ⟨by have := HJ4.out; have := HK2.out; have := HK3.out; first | omega | exact Nat.le_refl _⟩, ⟨by (try simp only [hl11_2]); (with_reducible repeat (first | apply Kd.S_alloc | apply Kd.S_drewN | apply Kd.S_drew)); exact HO_10.out⟩, ⟨by (try simp only [hl11_2]); exact ur HO_11⟩, ⟨by (try simp only [hl11_2]); exact ur HO_12⟩, ⟨by (try simp only [hl11_2]); exact ur HO_45⟩, ⟨by (try simp only [hl11_2]); exact ub BK101⟩, ⟨uB1 HB GE101.out⟩⟩
                  ·
                   replace c49 := Bool.eq_false_iff.mpr c49; subst c49; have H1 : (impl_MarkNear.j3 k3 l1 a3 t107 x11_2 x12_2 x13_2 x14_3 x15_3 x47_3 (rd x11_2 x47_3) t121 x11_2 (x11_2.length : Int) x47_3 (t121 == 99999) a0_0 l0_1) = some (r1, r2) := by rw [if_neg (show ¬ (false = true) by decide)] at H; exact H
                   clear H; have H := H1; clear H1; have H' := Aside0.mk H; clear H; obtain ⟨Ao51, co51, eo51⟩ := Kd.R_slice HO_12.out; subst eo51; have p122 : 0 ≤ (x47_3 : Int) := ua; have q122 : x47_3 < (x12_2.length : Int) := ua; obtain ⟨ad122, e122, hx122_0⟩ := Kd.at_bool (Kd.R_reads' HO_12.out).2.2 x47_3 p122 q122; (try rw [← Nbq48.out] at hx122_0)
                   cases e122
                   replace p122 := eq_true p122; replace q122 := eq_true q122; go_wp2; go_meet
                   case rel => exact ⟨_, ((t121 == 99999)), ue, H', ⟨by have := HJ4.out; have := HK2.out; have := HK3.out; first | omega | exact Nat.le_refl _⟩, ⟨by (try simp only [hl11_2]); (with_reducible repeat (first | apply Kd.S_alloc | apply Kd.S_drewN | apply Kd.S_drew)); exact HO_10.out⟩, ⟨by (try simp only [hl11_2]); exact ur HO_11⟩, ⟨by (try simp only [hl11_2]); exact ur HO_12⟩, ⟨by (try simp only [hl11_2]); exact ur HO_45⟩, ⟨by (try simp only [hl11_2]); exact ub BK101⟩, ⟨uB1 HB GE101.out⟩⟩
                 ·
                  rw [if_neg c47] at H; exact absurd H (by simp)
               case rest =>
                clear HC43; try clear c1
                try clear p1
                try clear q1
                try clear hx1
                try clear c2
                try clear p2
                try clear q2
                try clear hx2
                try clear c3
                try clear c4
                try clear q4
                try clear c8
                try clear c12
                try clear p12
                try clear q12
                try clear hx12
                try clear c13
                try clear c14
                try clear c19
                try clear c22
                try clear c22b0
                try clear c23
                try clear c23b0
                try clear p24
                try clear q24
                try clear hx24
                try clear hf24
                try clear c25
                try clear c25b0
                try clear c25b1
                try clear c26
                try clear c26b0
                try clear c26b1
                try clear c39
                try clear c39b0
                try clear c40
                try clear c40b0
                try clear c41
                try clear c41b0
                try clear c46
                try clear c46b0
                try clear c46b1
                try clear c47
                try clear c47b0
                try clear q48
                try clear c49
                try clear hcz10_0
                try clear hcz10_1
                try clear hcz12_0
                try clear hcz12_1
                try clear hcz17_0
                try clear hcz17_1
                try clear hcz27_0
                try clear hcz27_1
                try clear hcz31_0
                try clear hcz31_1
                try clear hcz36_0
                try clear hcz36_1
                try clear hfz10_0
                try clear hfz10_1
                try clear hfz12_0
                try clear hfz12_1
                try clear hfz17_0
                try clear hfz17_1
                try clear hfz27_0
                try clear hfz27_1
                try clear hfz31_0
                try clear hfz31_1
                try clear hfz36_0
                try clear hfz36_1
                try clear hx120_0
                try clear hx122_0
                try clear hx24_0
                try clear p120
                try clear p122
                try clear p2
                try clear p24
                try clear q120
                try clear q122
                try clear q2
                try clear q24
                obtain ⟨kq, x68_42, rfl, HA, HJ42, HO_10, HO_11, HO_12, HO_45, BK101, HB⟩ := hcut
                cases kq with
                | zero => exact absurd HA.out (by simp [impl_MarkNear.j3])
                | succ kj42 =>
                 have H := HA.out; clear HA; simp only [impl_MarkNear.j3] at H; by_cases c52 : x68_42 = true
                 ·
                  subst c52; have H1 : (impl_MarkNear.l1 kj42 l1 a3 t107 x11_2 x12_2 x13_2 x14_3 x15_3 x11_2 (x11_2.length : Int) (wrap64 (x47_3 + 1)) a0_0 l0_1) = some (r1, r2) := by rw [if_pos rfl] at H; exact H
                  clear H; have H := H1; clear H1; have H' := Aside0.mk H; clear H; go_wp2; go_roundg kj42
                  case measure => have := HJ4.out; have := HK2.out; have := HK3.out; have := HJ42.out; omega
                  case rel => exact ⟨(x14_3), (x15_3), (wrap64 (x47_3 + 1)), ue, ue, ue, H', ⟨by have := HJ4.out; have := HK2.out; have := HK3.out; have := HJ42.out; omega⟩, ⟨by (try simp only [hl11_2]); (with_reducible repeat (first | apply Kd.S_alloc | apply Kd.S_drewN | apply Kd.S_drew)); exact HO_10.out⟩, ⟨by (try simp only [hl11_2]); exact ur HO_11⟩, ⟨by (try simp only [hl11_2]); exact ur HO_12⟩, ⟨by (try simp only [hl11_2]); exact ur HO_45⟩, ⟨by (try simp only [hl11_2]); exact ub BK101⟩, ⟨uB1 HB GE101.out⟩⟩
                 ·
                  replace c52 := Bool.eq_false_iff.mpr c52; subst c52; have H1 : (if x14_3 < 0 then (impl_MarkNear.l1 kj42 l1 a3 t107 x11_2 x12_2 x13_2 x47_3 (wrap64 ((rd x11_2 x47_3) + t121)) x11_2 (x11_2.length : Int) (wrap64 (x47_3 + 1)) a0_0 l0_1) else (if (wrap64 ((rd x11_2 x47_3) + t121)) < x15_3 then (impl_MarkNear.l1 kj42 l1 a3 t107 x11_2 x12_2 x13_2 x47_3 (wrap64 ((rd x11_2 x47_3) + t121)) x11_2 (x11_2.length : Int) (wrap64 (x47_3 + 1)) a0_0 l0_1) else (impl_MarkNear.l1 kj42 l1 a3 t107 x11_2 x12_2 x13_2 x14_3 x15_3 x11_2 (x11_2.length : Int) (wrap64 (x47_3 + 1)) a0_0 l0_1))) = some (r1, r2) := by rw [if_neg (show ¬ (false = true) by decide)] at H; exact H
                  clear H; have H := H1; clear H1; by_cases c53 : x14_3 < 0
                  ·
                   rw [if_pos c53] at H; have c53b0 : decide (x14_3 < 0) = true := decide_eq_true c53; clear c53; have H' := Aside0.mk H; clear H; go_wp2; go_roundg kj42
                   case measure => have := HJ4.out; have := HK2.out; have := HK3.out; have := HJ42.out; omega
                   case rel => exact ⟨(x47_3), (wrap64 ((rd x11_2 x47_3) + t121)), (wrap64 (x47_3 + 1)), ue, ue, ue, H', ⟨by have := HJ4.out; have := HK2.out; have := HK3.out; have := HJ42.out; omega⟩, ⟨by (try simp only [hl11_2]); (with_reducible repeat (first | apply Kd.S_alloc | apply Kd.S_drewN | apply Kd.S_drew)); exact HO_10.out⟩, ⟨by (try simp only [hl11_2]); exact ur HO_11⟩, ⟨by (try simp only [hl11_2]); exact ur HO_12⟩, ⟨by (try simp only [hl11_2]); exact ur HO_45⟩, ⟨by (try simp only [hl11_2]); exact ub BK101⟩, ⟨uB1 HB GE101.out⟩⟩
                  ·
                   rw [if_neg c53] at H; have c53b0 : decide (x14_3 < 0) = false := decide_eq_false c53; clear c53; by_cases c54 : (wrap64 ((rd x11_2 x47_3) + t121)) < x15_3
                   ·
                    rw [if_pos c54] at H; have c54b0 : decide ((wrap64 ((rd x11_2 x47_3) + t121)) < x15_3) = true := decide_eq_true c54; clear c54; have H' := Aside0.mk H; clear H; go_wp2; go_roundg kj42
                    case measure => have := HJ4.out; have := HK2.out; have := HK3.out; have := HJ42.out; omega
                    case rel => exact ⟨(x47_3), (wrap64 ((rd x11_2 x47_3) + t121)), (wrap64 (x47_3 + 1)), ue, ue, ue, H', ⟨by have := HJ4.out; have := HK2.out; have := HK3.out; have := HJ42.out; omega⟩, ⟨by (try simp only [hl11_2]); (with_reducible repeat (first | apply Kd.S_alloc | apply Kd.S_drewN | apply Kd.S_drew)); exact HO_10.out⟩, ⟨by (try simp only [hl11_2]); exact ur HO_11⟩, ⟨by (try simp only [hl11_2]); exact ur HO_12⟩, ⟨by (try simp only [hl11_2]); exact ur HO_45⟩, ⟨by (try simp only [hl11_2]); exact ub BK101⟩, ⟨uB1 HB GE101.out⟩⟩
                   ·
                    rw [if_neg c54] at H; have c54b0 : decide ((wrap64 ((rd x11_2 x47_3) + t121)) < x15_3) = false := decide_eq_false c54; clear c54; have H' := Aside0.mk H; clear H; go_wp2; go_roundg kj42
                    case measure => have := HJ4.out; have := HK2.out; have := HK3.out; have := HJ42.out; omega
                    case rel => exact ⟨(x14_3), (x15_3), (wrap64 (x47_3 + 1)), ue, ue, ue, H', ⟨by have := HJ4.out; have := HK2.out; have := HK3.out; have := HJ42.out; omega⟩, ⟨by (try simp only [hl11_2]); (with_reducible repeat (first | apply Kd.S_alloc | apply Kd.S_drewN | apply Kd.S_drew)); exact HO_10.out⟩, ⟨by (try simp only [hl11_2]); exact ur HO_11⟩, ⟨by (try simp only [hl11_2]); exact ur HO_12⟩, ⟨by (try simp only [hl11_2]); exact ur HO_45⟩, ⟨by (try simp only [hl11_2]); exact ub BK101⟩, ⟨uB1 HB GE101.out⟩⟩
              ·
               rw [if_neg c41] at H; exact absurd H (by simp)
             ·
              rw [if_neg c40] at H; exact absurd H (by simp)
            ·
             rw [if_neg c39] at H; have c39b0 : decide (x47_3 < (x11_2.length : Int)) = false := decide_eq_false c39; clear c39; by_cases c55 : x14_3 < 0
             ·
              rw [if_pos c55] at H; have c55b0 : decide (x14_3 < 0) = true := decide_eq_true c55; clear c55; simp only [Option.some.injEq, Prod.mk.injEq] at H; obtain ⟨rfl, rfl⟩ := H; go_wp2; go_ret2; exact ⟨ux, uB1 HB GE101.out⟩
             ·
              rw [if_neg c55] at H; have c55b0 : decide (x14_3 < 0) = false := decide_eq_false c55; clear c55; by_cases c56 : 0 ≤ x14_3
              ·
               rw [if_pos c56] at H; have c56b0 : decide (0 ≤ x14_3) = true := decide_eq_true c56; clear c56; by_cases c57 : x14_3 < (x12_2.length : Int)
               ·
                rw [if_pos c57] at H; have c57b0 : decide (x14_3 < (x12_2.length : Int)) = true := decide_eq_true c57; clear c57; obtain ⟨y123, hy123⟩ : ∃ y_ : List Bool, y_ = (x12_2.set (x14_3 : Int).toNat true) := ⟨_, rfl⟩
                replace H : (if x14_3 = a3 then (if 0 ≤ a3 then (if a3 < (x11_2.length : Int) then (some (rd x11_2 a3, wrap64 (x13_2 + 1))) else (none)) else (none)) else (impl_MarkNear.l2 k3 l1 a3 t107 x11_2 y123 (wrap64 (x13_2 + 1)) x14_3 l0_1 (l0_1.length : Int) 0 a0_0 l0_1)) = some (r1, r2) := by first | (rw [hy123]; with_reducible exact H) | (have H2_ := (Option.bind_some _ _).symm.trans H; rw [hy123]; with_reducible exact H2_) | (have H2_ := (Option.bind_some _ _).symm.trans H; with_reducible exact H2_) | with_reducible exact H | (rw [hy123]; exact H) | exact H
                have Ny123 := Aside0.mk hy123; clear hy123; have HH_ := Aside0.mk H; clear H; have p58 : 0 ≤ (x14_3 : Int) := ua; have q58 : (x14_3 : Int) < ((x12_2.length : Int) : Int) := ua; obtain ⟨go58, co58, eo58, gb58, gl58, cl58, HG58⟩ := Kd.R_form HO_12.out (by omega); (first | cases eo58 | (injection eo58 with ea_ en_ ec_; (first | subst ea_ | (injection ea_ with ea_; subst ea_)); subst ec_; clear en_)); have GB58 := Aside0.mk gb58; have GG58 := Aside0.mk HG58; clear gb58 gl58 HG58; obtain ⟨hx58_0, hf58_0⟩ := Kd.R_celln false HO_12.out (x14_3 : Int) p58 q58; replace p58 := eq_true p58; replace q58 := eq_true q58; have HP59 := Kd.R_putg HO_12.out (x14_3 : Int) true; go_upto_region 21 with (first | ((with_reducible refine gate_store (t := 4) (p := 88) rfl ?_); refine store_event (t := 4) (p := 88) (v := ?vo_w60) (w1 := (wr.setCell ⟨go58, (x14_3 : Int).toNat, none⟩ (.bool true))) ?hg ?ho ?hn ?hr ?_; (case ho => rfl); (case hg => rfl); (case hn => rfl); (case hr => first | (go_simp; done) | (go_simp; rfl)); intro w60 hw; have hg : wr.grownBy w60 (some go58) := (by rw [hw]; exact HP59.2); have hp_ : Kd.R Kd.bool 4 w60 w.heap.size (fun _ => True) (.slice (some ⟨go58, 0, none⟩) x12_2.length co58) y123 := (by rw [hw, Ny123.out]; exact HP59.1); clear HP59; have n0_ := Aside0.mk (Kd.S_over' (v := (.slice (some ⟨go58, 0, none⟩) x12_2.length co58)) (by (with_reducible repeat (first | apply Kd.S_alloc | apply Kd.S_drewN | apply Kd.S_drew)); exact HO_10.out) (Kd.R_typed HO_12.out) (by decide) hg); have n1_ := Aside0.mk (Kd.R_over' (v := (.slice (some ⟨go58, 0, none⟩) x12_2.length co58)) (ur HO_11) (Kd.R_typed HO_12.out) (by decide) hg); have n2_ := Aside0.mk (hp_); have n3_ := Aside0.mk (Kd.R_over' (v := (.slice (some ⟨go58, 0, none⟩) x12_2.length co58)) (ur HO_45) (Kd.R_typed HO_12.out) (by decide) hg); have n4_ := Aside0.mk (blk_grown (g := gb101) (o := .cells #[.int .i64 a0_0, .slice A0_1 l0_1.length c0_1] 25 (0, 0)) (ub BK101) hg (Kd.R_ne HO_12.out BK101.out (by decide))); have n5_ := Aside0.mk ((by rw [hw]; exact below_set (HB.out) GB58.out : Below w.heap.size w w60)); clear HO_10; clear HO_11; clear HO_12; clear HO_45; clear BK101; clear HB; have HO_10 := n0_; have HO_11 := n1_; have HO_12 := n2_; have HO_45 := n3_; have BK101 := n4_; have HB := n5_; clear n0_ n1_ n2_ n3_ n4_ n5_; clear hg hw hp_))
                have H := HH_.out; clear HH_; by_cases c61 : x14_3 = a3
                ·
                 rw [if_pos c61] at H; have c61b0 : (x14_3 == a3) = true := beq_iff_eq.mpr c61; have c61b1 : (x14_3 != a3) = false := bne_eq_false_iff_eq.mpr c61; clear c61; by_cases c62 : 0 ≤ a3
                 ·
                  rw [if_pos c62] at H; have c62b0 : decide (0 ≤ a3) = true := decide_eq_true c62; clear c62; by_cases c63 : a3 < (x11_2.length : Int)
                  ·
                   rw [if_pos c63] at H; have c63b0 : decide (a3 < (x11_2.length : Int)) = true := decide_eq_true c63; clear c63; simp only [Option.some.injEq, Prod.mk.injEq] at H; obtain ⟨rfl, rfl⟩ := H; have p124 : 0 ≤ (a3 : Int) := ua; have q124 : a3 < (x11_2.length : Int) := ua; obtain ⟨ad124, e124, hx124_0⟩ := Kd.at_int (Kd.R_reads' HO_11.out).2.2 a3 p124 q124; obtain rfl : (⟨go24, 0, none⟩ : Addr) = ad124 := (by injection e124)
                   (first | simp only [add_plain] at hx124_0 | simp only [add_at] at hx124_0 | simp only [Addr.add, Nat.zero_add] at hx124_0 | skip); replace p124 := eq_true p124; replace q124 := eq_true q124; try go_wp2
                   go_ret2; exact ⟨ux, uB1 HB GE101.out⟩
                  ·
                   rw [if_neg c63] at H; exact absurd H (by simp)
                 ·
                  rw [if_neg c62] at H; exact absurd H (by simp)
                ·
                 rw [if_neg c61] at H; have c61b0 : (x14_3 == a3) = false := beq_eq_false_iff_ne.mpr c61; have c61b1 : (x14_3 != a3) = true := bne_iff_ne.mpr c61; have H' := Aside0.mk H; clear H; have hcz61_0 : w60.cell? ⟨gb101, 0, none⟩ = some (.int .i64 a0_0) := (blk_cell BK101.out 0).trans rfl; have hcz61_1 : w60.cell? ⟨gb101, 1, none⟩ = some (.slice A0_1 l0_1.length c0_1) := (blk_cell BK101.out 1).trans rfl; have hfz61_0 := blk_frozen BK101.out 0; have hfz61_1 := blk_frozen BK101.out 1; try go_wp2
                 go_loopg [102] k3 (fun kq v102 w' => ∃ (x11_4 : List Int) (x102_4 : Int), v102 = .int .i64 x102_4 ∧ Aside0 (impl_MarkNear.l2 kq l1 a3 t107 x11_4 y123 (wrap64 (x13_2 + 1)) x14_3 l0_1 (l0_1.length : Int) x102_4 a0_0 l0_1 = some (r1, r2)) ∧ Aside0 (kq ≤ k3) ∧ Aside0 (Kd.S (Kd.slice 3 (Kd.int .i64)) 28 w' w.heap.size (fun k_ => some k_ ≠ ((.slice (some ⟨go24, 0, none⟩) x11_2.length co24) : Value).ownBlock) v108 t107) ∧ Aside0 (Kd.R (Kd.int .i64) 3 w' w.heap.size (fun _ => True) (.slice (some ⟨go24, 0, none⟩) x11_2.length co24) x11_4) ∧ Aside0 (Kd.R Kd.bool 4 w' w.heap.size (fun _ => True) (.slice (some ⟨go58, 0, none⟩) x12_2.length co58) y123) ∧ Aside0 (w'.heap[gb101]? = some (.cells #[.int .i64 a0_0, (.slice A0_1 l0_1.length c0_1)] 25 (0, 0))) ∧ Aside0 (Below w.heap.size w w'))
                 case atStart => exact ⟨(x11_2), (0), ue, H', ⟨Nat.le_refl _⟩, ⟨by (try simp only [hl11_2]); (with_reducible repeat (first | apply Kd.S_alloc | apply Kd.S_drewN | apply Kd.S_drew)); exact Kd.S_mono HO_10.out (fun _ hk => hk.1)⟩, ⟨by (try simp only [hl11_2]); exact ur HO_11⟩, ⟨by (try simp only [hl11_2]); exact ur HO_12⟩, ⟨by (try simp only [hl11_2]); exact ub BK101⟩, ⟨uB1 HB GE101.out⟩⟩
                 case round =>
                  clear H'; try clear c1
                  try clear p1
                  try clear q1
                  try clear hx1
                  try clear c2
                  try clear p2
                  try clear q2
                  try clear hx2
                  try clear c3
                  try clear c4
                  try clear q4
                  try clear c5
                  try clear p5
                  try clear q5
                  try clear hx5
                  try clear hf5
                  try clear c6
                  try clear p6
                  try clear c8
                  try clear c12
                  try clear p12
                  try clear q12
                  try clear hx12
                  try clear c13
                  try clear c14
                  try clear c19
                  try clear c22
                  try clear c22b0
                  try clear c23
                  try clear c23b0
                  try clear p24
                  try clear q24
                  try clear hx24
                  try clear hf24
                  try clear c25
                  try clear c25b0
                  try clear c25b1
                  try clear c26
                  try clear c26b0
                  try clear c26b1
                  try clear c39
                  try clear c39b0
                  try clear c40
                  try clear c40b0
                  try clear c41
                  try clear c41b0
                  try clear c46
                  try clear c46b0
                  try clear c46b1
                  try clear c47
                  try clear c47b0
                  try clear q48
                  try clear c49
                  try clear c52
                  try clear c53
                  try clear c53b0
                  try clear c54
                  try clear c54b0
                  try clear c55
                  try clear c55b0
                  try clear c56
                  try clear c56b0
                  try clear c57
                  try clear c57b0
                  try clear p58
                  try clear q58
                  try clear hx58
                  try clear hf58
                  try clear c61
                  try clear c61b0
                  try clear c61b1
                  try clear c62
                  try clear c62b0
                  try clear c63
                  try clear c63b0
                  try clear hcz10_0
                  try clear hcz10_1
                  try clear hcz12_0
                  try clear hcz12_1
                  try clear hcz17_0
                  try clear hcz17_1
                  try clear hcz27_0
                  try clear hcz27_1
                  try clear hcz31_0
                  try clear hcz31_1
                  try clear hcz36_0
                  try clear hcz36_1
                  try clear hcz61_0
                  try clear hcz61_1
                  try clear hfz10_0
                  try clear hfz10_1
                  try clear hfz12_0
                  try clear hfz12_1
                  try clear hfz17_0
                  try clear hfz17_1
                  try clear hfz27_0
                  try clear hfz27_1
                  try clear hfz31_0
                  try clear hfz31_1
                  try clear hfz36_0
                  try clear hfz36_1
                  try clear hfz61_0
                  try clear hfz61_1
                  try clear hx120_0
                  try clear hx122_0
                  try clear hx124_0
                  try clear hx24_0
                  try clear hx58_0
                  try clear p1
                  try clear p12
                  try clear p120
                  try clear p122
                  try clear p124
                  try clear p2
                  try clear p24
                  try clear p58
                  try clear q1
                  try clear q12
                  try clear q120
                  try clear q122
                  try clear q124
                  try clear q2
                  try clear q24
                  try clear q4
                  try clear q48
                  try clear q58
                  obtain ⟨x11_4, x102_4, rfl, HA, HK4, HO_10, HO_11, HO_12, BK101, HB⟩ := hrel; have hl11_4 := (Kd.R_reads' HO_11.out).1; rw [hl11_4] at HO_11; (try simp only [hl11_4]); (try simp only [hl11_4] at BK101); (try simp only [hl11_4] at HO_10); (try simp only [hl11_4] at HO_12); have hl12_4 := (Kd.R_reads' HO_12.out).1; rw [hl12_4] at HO_12; (try simp only [hl12_4]); (try simp only [hl12_4] at BK101); (try simp only [hl12_4] at HO_10); (try simp only [hl12_4] at HO_11)
                  cases gk with
                  | zero => exact absurd HA.out (by simp [impl_MarkNear.l2])
                  | succ k4 =>
                   have H := HA.out; clear HA; simp only [impl_MarkNear.l2] at H; by_cases c64 : x102_4 < (l0_1.length : Int)
                   ·
                    rw [if_pos c64] at H; have c64b0 : decide (x102_4 < (l0_1.length : Int)) = true := decide_eq_true c64; clear c64; by_cases c65 : 0 ≤ x102_4
                    ·
                     rw [if_pos c65] at H; have c65b0 : decide (0 ≤ x102_4) = true := decide_eq_true c65; clear c65; by_cases c66 : x102_4 < (l0_1.length : Int)
                     ·
                      rw [if_pos c66] at H; have c66b0 : decide (x102_4 < (l0_1.length : Int)) = true := decide_eq_true c66; clear c66; have HH_ := Aside0.mk H; clear H; have p125 : 0 ≤ (x102_4 : Int) := ua; have q125 : x102_4 < (l0_1.length : Int) := ua; obtain ⟨ad125, e125, hx125_0, hx125_1, hx125_2, hx125_3, hx125_4⟩ := at_T33 HR0_1.out x102_4 p125 q125
                      cases e125
                      replace hx125_0 := uc HB hx125_0; replace hx125_1 := uc HB hx125_1; replace hx125_2 := uc HB hx125_2; replace hx125_3 := uc HB hx125_3; replace hx125_4 := uc HB hx125_4; replace p125 := eq_true p125; replace q125 := eq_true q125; go_upto_region 26 with (first | ((with_reducible refine gate_dst (N := 20) rfl ?_); refine box_event ?hg (N := 20) ?hd (cs := #[.int .i64 0, .int .i64 0, .int .i64 0, .int .i64 0, .int .i64 0]) (t := 33) ?hr ?_; (case hd => rfl); (case hg => rfl); (case hr => first | (go_simp; done) | (go_simp; rfl)); intro gb126 hg w67 hbox hb; have n0_ := Aside0.mk (Kd.S_below (by (with_reducible repeat (first | apply Kd.S_alloc | apply Kd.S_drewN | apply Kd.S_drew)); exact HO_10.out) hb); have n1_ := Aside0.mk (Kd.R_below (ur HO_11) hb); have n2_ := Aside0.mk (Kd.R_below (ur HO_12) hb); have n3_ := Aside0.mk (blk_below (g := gb101) (o := .cells #[.int .i64 a0_0, .slice (some ad125) l0_1.length c0_1] 25 (0, 0)) (ub BK101) hb); have n4_ := Aside0.mk (below_step (uB1 HB GE101.out) hb); have n5_ := Aside0.mk (hbox); have n6_ := Aside0.mk ((by rw [hg]; exact (below_size (uB1 HB GE101.out)) : w.heap.size ≤ gb126)); have n7_ := Aside0.mk ((by rw [hg]; exact (below_size (uB1 HB GE101.out)) : w.heap.size ≤ gb126)); have n8_ := Aside0.mk ((by rw [hg]; exact Nat.ne_of_lt (blk_lt (g := gb101) (o := .cells #[.int .i64 a0_0, .slice (some ad125) l0_1.length c0_1] 25 (0, 0)) (ub BK101)) : gb101 ≠ gb126)); have n9_ := Aside0.mk ((by rw [hg]; exact Nat.ne_of_gt (blk_lt (g := gb101) (o := .cells #[.int .i64 a0_0, .slice (some ad125) l0_1.length c0_1] 25 (0, 0)) (ub BK101)) : gb126 ≠ gb101)); clear HO_10; clear HO_11; clear HO_12; clear BK101; clear HB; have HO_10 := n0_; have HO_11 := n1_; have HO_12 := n2_; have BK101 := n3_; have HB := n4_; have BK126 := n5_; have GW126 := n6_; have GE126 := n7_; have NB101_126 := n8_; have NB126_101 := n9_; clear n0_ n1_ n2_ n3_ n4_ n5_ n6_ n7_ n8_ n9_; clear hb hbox hg; have hnb68 := NB126_101.out; have hnc68 := NB101_126.out; have hcz69_0 : w67.cell? ⟨gb126, 0, none⟩ = some (.int .i64 0) := (blk_cell BK126.out 0).trans rfl; have hcz69_1 : w67.cell? ⟨gb126, 1, none⟩ = some (.int .i64 0) := (blk_cell BK126.out 1).trans rfl; have hcz69_2 : w67.cell? ⟨gb126, 2, none⟩ = some (.int .i64 0) := (blk_cell BK126.out 2).trans rfl; have hcz69_3 : w67.cell? ⟨gb126, 3, none⟩ = some (.int .i64 0) := (blk_cell BK126.out 3).trans rfl; have hcz69_4 : w67.cell? ⟨gb126, 4, none⟩ = some (.int .i64 0) := (blk_cell BK126.out 4).trans rfl; have hfz69_0 := blk_frozen BK126.out 0; have hfz69_1 := blk_frozen BK126.out 1; have hfz69_2 := blk_frozen BK126.out 2; have hfz69_3 := blk_frozen BK126.out 3; have hfz69_4 := blk_frozen BK126.out 4))
                      have H := HH_.out; clear HH_; by_cases c70 : ((rd_T33 l0_1 x102_4).f0) = x14_3
                      ·
                       rw [if_pos c70] at H; have c70b0 : (((rd_T33 l0_1 x102_4).f0) == x14_3) = true := beq_iff_eq.mpr c70; have c70b1 : (((rd_T33 l0_1 x102_4).f0) != x14_3) = false := bne_eq_false_iff_eq.mpr c70; clear c70; by_cases c71 : 0 ≤ ((rd_T33 l0_1 x102_4).f1)
                       ·
                        rw [if_pos c71] at H; have c71b0 : decide (0 ≤ ((rd_T33 l0_1 x102_4).f1)) = true := decide_eq_true c71; clear c71; by_cases c72 : ((rd_T33 l0_1 x102_4).f1) < (x11_4.length : Int)
                        ·
                         rw [if_pos c72] at H; have c72b0 : decide (((rd_T33 l0_1 x102_4).f1) < (x11_4.length : Int)) = true := decide_eq_true c72; clear c72; by_cases c73 : 0 ≤ x14_3
                         ·
                          rw [if_pos c73] at H; have c73b0 : decide (0 ≤ x14_3) = true := decide_eq_true c73; clear c73; by_cases c74 : x14_3 < (x11_4.length : Int)
                          ·
                           rw [if_pos c74] at H; have c74b0 : decide (x14_3 < (x11_4.length : Int)) = true := decide_eq_true c74; clear c74; obtain ⟨ji75, hji75⟩ : ∃ j_ : Int, (mn (rd x11_4 ((rd_T33 l0_1 x102_4).f1)) (wrap64 ((rd x11_4 x14_3) + ((rd_T33 l0_1 x102_4).f2)))) = j_ := ⟨_, rfl⟩
                           replace H : (impl_MarkNear.l2 k4 l1 a3 t107 (x11_4.set (((rd_T33 l0_1 x102_4).f1) : Int).toNat (ji75)) y123 (wrap64 (x13_2 + 1)) x14_3 l0_1 (l0_1.length : Int) (wrap64 (x102_4 + 1)) a0_0 l0_1) = some (r1, r2) := by first | (rw [hji75] at H; exact H) | (simp only [hji75] at H ⊢; exact H)
                           have hji75_ : (if (wrap64 ((rd x11_4 x14_3) + ((rd_T33 l0_1 x102_4).f2))) < (rd x11_4 ((rd_T33 l0_1 x102_4).f1)) then (wrap64 ((rd x11_4 x14_3) + ((rd_T33 l0_1 x102_4).f2))) else (rd x11_4 ((rd_T33 l0_1 x102_4).f1))) = ji75 := hji75; obtain ⟨y129, hy129⟩ : ∃ y_ : List Int, y_ = (x11_4.set (((rd_T33 l0_1 x102_4).f1) : Int).toNat (ji75)) := ⟨_, rfl⟩
                           replace H : (impl_MarkNear.l2 k4 l1 a3 t107 y129 y123 (wrap64 (x13_2 + 1)) x14_3 l0_1 (l0_1.length : Int) (wrap64 (x102_4 + 1)) a0_0 l0_1) = some (r1, r2) := by first | (rw [hy129]; with_reducible exact H) | (have H2_ := (Option.bind_some _ _).symm.trans H; rw [hy129]; with_reducible exact H2_) | (have H2_ := (Option.bind_some _ _).symm.trans H; with_reducible exact H2_) | with_reducible exact H | (rw [hy129]; exact H) | exact H
                           have Ny129 := Aside0.mk hy129; clear hy129; have H' := Aside0.mk H; clear H; try go_wp2
                           have n0_ : Aside0 (Kd.S (Kd.slice 3 (Kd.int .i64)) 28 (((((w67.setCell ⟨gb126, 0, none⟩ (.int .i64 ((rd_T33 l0_1 x102_4).f0))).setCell ⟨gb126, 1, none⟩ (.int .i64 ((rd_T33 l0_1 x102_4).f1))).setCell ⟨gb126, 2, none⟩ (.int .i64 ((rd_T33 l0_1 x102_4).f2))).setCell ⟨gb126, 3, none⟩ (.int .i64 ((rd_T33 l0_1 x102_4).f3))).setCell ⟨gb126, 4, none⟩ (.int .i64 ((rd_T33 l0_1 x102_4).f4))) w.heap.size (fun k_ => some k_ ≠ (.slice (some ⟨go24, 0, none⟩) x11_4.length co24 : Value).ownBlock) v108 t107) := ⟨by (with_reducible repeat (first | apply Kd.S_alloc | apply Kd.S_drewN | apply Kd.S_drew)); exact Kd.S_mono (Kd.S_far (p := ⟨gb126, 4, none⟩) (Kd.S_far (p := ⟨gb126, 3, none⟩) (Kd.S_far (p := ⟨gb126, 2, none⟩) (Kd.S_far (p := ⟨gb126, 1, none⟩) (Kd.S_far (p := ⟨gb126, 0, none⟩) (Kd.S_types HO_10.out BK126.out (by decide)) (fun _ hk => hk.2) (.int .i64 ((rd_T33 l0_1 x102_4).f0))) (fun _ hk => hk.2) (.int .i64 ((rd_T33 l0_1 x102_4).f1))) (fun _ hk => hk.2) (.int .i64 ((rd_T33 l0_1 x102_4).f2))) (fun _ hk => hk.2) (.int .i64 ((rd_T33 l0_1 x102_4).f3))) (fun _ hk => hk.2) (.int .i64 ((rd_T33 l0_1 x102_4).f4))) (fun _ hk => hk.1)⟩
                           have n1_ : Aside0 (Kd.R (Kd.int .i64) 3 (((((w67.setCell ⟨gb126, 0, none⟩ (.int .i64 ((rd_T33 l0_1 x102_4).f0))).setCell ⟨gb126, 1, none⟩ (.int .i64 ((rd_T33 l0_1 x102_4).f1))).setCell ⟨gb126, 2, none⟩ (.int .i64 ((rd_T33 l0_1 x102_4).f2))).setCell ⟨gb126, 3, none⟩ (.int .i64 ((rd_T33 l0_1 x102_4).f3))).setCell ⟨gb126, 4, none⟩ (.int .i64 ((rd_T33 l0_1 x102_4).f4))) w.heap.size (fun _ => True) (.slice (some ⟨go24, 0, none⟩) x11_4.length co24) x11_4) := ⟨by (with_reducible repeat (first | apply Kd.R_alloc | apply Kd.R_drewN | apply Kd.R_drew)); exact Kd.R_mono (Kd.R_far (p := ⟨gb126, 4, none⟩) (Kd.R_far (p := ⟨gb126, 3, none⟩) (Kd.R_far (p := ⟨gb126, 2, none⟩) (Kd.R_far (p := ⟨gb126, 1, none⟩) (Kd.R_far (p := ⟨gb126, 0, none⟩) (Kd.R_types HO_11.out BK126.out (by decide)) (fun _ hk => hk.2) (.int .i64 ((rd_T33 l0_1 x102_4).f0))) (fun _ hk => hk.2) (.int .i64 ((rd_T33 l0_1 x102_4).f1))) (fun _ hk => hk.2) (.int .i64 ((rd_T33 l0_1 x102_4).f2))) (fun _ hk => hk.2) (.int .i64 ((rd_T33 l0_1 x102_4).f3))) (fun _ hk => hk.2) (.int .i64 ((rd_T33 l0_1 x102_4).f4))) (fun _ hk => trivial)⟩
                           have n2_ : Aside0 (Kd.R Kd.bool 4 (((((w67.setCell ⟨gb126, 0, none⟩ (.int .i64 ((rd_T33 l0_1 x102_4).f0))).setCell ⟨gb126, 1, none⟩ (.int .i64 ((rd_T33 l0_1 x102_4).f1))).setCell ⟨gb126, 2, none⟩ (.int .i64 ((rd_T33 l0_1 x102_4).f2))).setCell ⟨gb126, 3, none⟩ (.int .i64 ((rd_T33 l0_1 x102_4).f3))).setCell ⟨gb126, 4, none⟩ (.int .i64 ((rd_T33 l0_1 x102_4).f4))) w.heap.size (fun _ => True) (.slice (some ⟨go58, 0, none⟩) y123.length co58) y123) := ⟨by (with_reducible repeat (first | apply Kd.R_alloc | apply Kd.R_drewN | apply Kd.R_drew)); exact Kd.R_mono (Kd.R_far (p := ⟨gb126, 4, none⟩) (Kd.R_far (p := ⟨gb126, 3, none⟩) (Kd.R_far (p := ⟨gb126, 2, none⟩) (Kd.R_far (p := ⟨gb126, 1, none⟩) (Kd.R_far (p := ⟨gb126, 0, none⟩) (Kd.R_types HO_12.out BK126.out (by decide)) (fun _ hk => hk.2) (.int .i64 ((rd_T33 l0_1 x102_4).f0))) (fun _ hk => hk.2) (.int .i64 ((rd_T33 l0_1 x102_4).f1))) (fun _ hk => hk.2) (.int .i64 ((rd_T33 l0_1 x102_4).f2))) (fun _ hk => hk.2) (.int .i64 ((rd_T33 l0_1 x102_4).f3))) (fun _ hk => hk.2) (.int .i64 ((rd_T33 l0_1 x102_4).f4))) (fun _ hk => trivial)⟩
                           have n3_ : Aside0 ((((((w67.setCell ⟨gb126, 0, none⟩ (.int .i64 ((rd_T33 l0_1 x102_4).f0))).setCell ⟨gb126, 1, none⟩ (.int .i64 ((rd_T33 l0_1 x102_4).f1))).setCell ⟨gb126, 2, none⟩ (.int .i64 ((rd_T33 l0_1 x102_4).f2))).setCell ⟨gb126, 3, none⟩ (.int .i64 ((rd_T33 l0_1 x102_4).f3))).setCell ⟨gb126, 4, none⟩ (.int .i64 ((rd_T33 l0_1 x102_4).f4))).heap[gb101]? = some (.cells #[.int .i64 a0_0, .slice (some ad125) l0_1.length c0_1] 25 (0, 0))) := ⟨by (with_reducible repeat first | apply zbn | apply zbd | apply zba); refine blk_far ?_ NB101_126.out _; (with_reducible repeat first | apply zbn | apply zbd | apply zba); refine blk_far ?_ NB101_126.out _; (with_reducible repeat first | apply zbn | apply zbd | apply zba); refine blk_far ?_ NB101_126.out _; (with_reducible repeat first | apply zbn | apply zbd | apply zba); refine blk_far ?_ NB101_126.out _; (with_reducible repeat first | apply zbn | apply zbd | apply zba); refine blk_far ?_ NB101_126.out _; exact ub BK101⟩
                           have n4_ : Aside0 ((((((w67.setCell ⟨gb126, 0, none⟩ (.int .i64 ((rd_T33 l0_1 x102_4).f0))).setCell ⟨gb126, 1, none⟩ (.int .i64 ((rd_T33 l0_1 x102_4).f1))).setCell ⟨gb126, 2, none⟩ (.int .i64 ((rd_T33 l0_1 x102_4).f2))).setCell ⟨gb126, 3, none⟩ (.int .i64 ((rd_T33 l0_1 x102_4).f3))).setCell ⟨gb126, 4, none⟩ (.int .i64 ((rd_T33 l0_1 x102_4).f4))).heap[gb126]? = some (.cells #[.int .i64 ((rd_T33 l0_1 x102_4).f0), .int .i64 ((rd_T33 l0_1 x102_4).f1), .int .i64 ((rd_T33 l0_1 x102_4).f2), .int .i64 ((rd_T33 l0_1 x102_4).f3), .int .i64 ((rd_T33 l0_1 x102_4).f4)] 33 (0, 0))) := ⟨by (with_reducible repeat first | apply zbn | apply zbd | apply zba); refine blk_put (cs := #[.int .i64 ((rd_T33 l0_1 x102_4).f0), .int .i64 ((rd_T33 l0_1 x102_4).f1), .int .i64 ((rd_T33 l0_1 x102_4).f2), .int .i64 ((rd_T33 l0_1 x102_4).f3), .int .i64 0]) ?_ 4 _ rfl; (with_reducible repeat first | apply zbn | apply zbd | apply zba); refine blk_put (cs := #[.int .i64 ((rd_T33 l0_1 x102_4).f0), .int .i64 ((rd_T33 l0_1 x102_4).f1), .int .i64 ((rd_T33 l0_1 x102_4).f2), .int .i64 0, .int .i64 0]) ?_ 3 _ rfl; (with_reducible repeat first | apply zbn | apply zbd | apply zba); refine blk_put (cs := #[.int .i64 ((rd_T33 l0_1 x102_4).f0), .int .i64 ((rd_T33 l0_1 x102_4).f1), .int .i64 0, .int .i64 0, .int .i64 0]) ?_ 2 _ rfl; (with_reducible repeat first | apply zbn | apply zbd | apply zba); refine blk_put (cs := #[.int .i64 ((rd_T33 l0_1 x102_4).f0), .int .i64 0, .int .i64 0, .int .i64 0, .int .i64 0]) ?_ 1 _ rfl; (with_reducible repeat first | apply zbn | apply zbd | apply zba); refine blk_put (cs := #[.int .i64 0, .int .i64 0, .int .i64 0, .int .i64 0, .int .i64 0]) ?_ 0 _ rfl; exact ub BK126⟩
                           have n5_ : Aside0 (Below w.heap.size w (((((w67.setCell ⟨gb126, 0, none⟩ (.int .i64 ((rd_T33 l0_1 x102_4).f0))).setCell ⟨gb126, 1, none⟩ (.int .i64 ((rd_T33 l0_1 x102_4).f1))).setCell ⟨gb126, 2, none⟩ (.int .i64 ((rd_T33 l0_1 x102_4).f2))).setCell ⟨gb126, 3, none⟩ (.int .i64 ((rd_T33 l0_1 x102_4).f3))).setCell ⟨gb126, 4, none⟩ (.int .i64 ((rd_T33 l0_1 x102_4).f4)))) := ⟨uB2 HB GE101.out GE126.out⟩
                           (try clear HO_10); (try clear HO_11); (try clear HO_12); (try clear BK101); (try clear BK126); (try clear HB); generalize (((((w67.setCell ⟨gb126, 0, none⟩ (.int .i64 ((rd_T33 l0_1 x102_4).f0))).setCell ⟨gb126, 1, none⟩ (.int .i64 ((rd_T33 l0_1 x102_4).f1))).setCell ⟨gb126, 2, none⟩ (.int .i64 ((rd_T33 l0_1 x102_4).f2))).setCell ⟨gb126, 3, none⟩ (.int .i64 ((rd_T33 l0_1 x102_4).f3))).setCell ⟨gb126, 4, none⟩ (.int .i64 ((rd_T33 l0_1 x102_4).f4))) = w70 at n0_ n1_ n2_ n3_ n4_ n5_ ⊢; have HO_10 := n0_; have HO_11 := n1_; have HO_12 := n2_; have BK101 := n3_; have BK126 := n4_; have HB := n5_; clear n0_ n1_ n2_ n3_ n4_ n5_; have n0_ := Aside0.mk (Kd.S_drew HO_10.out); have n1_ := Aside0.mk (Kd.R_drew HO_11.out); have n2_ := Aside0.mk (Kd.R_drew HO_12.out); have n3_ := Aside0.mk (blk_drew BK101.out); have n4_ := Aside0.mk (blk_drew BK126.out); have n5_ := Aside0.mk (below_drew1 HB.out); clear HO_10; clear HO_11; clear HO_12; clear BK101; clear BK126; clear HB; have HO_10 := n0_; have HO_11 := n1_; have HO_12 := n2_; have BK101 := n3_; have BK126 := n4_; have HB := n5_; clear n0_ n1_ n2_ n3_ n4_ n5_; have p127 : 0 ≤ (((rd_T33 l0_1 x102_4).f1) : Int) := ua; have q127 : ((rd_T33 l0_1 x102_4).f1) < (x11_4.length : Int) := ua; obtain ⟨ad127, e127, hx127_0⟩ := Kd.at_int (Kd.R_reads' HO_11.out).2.2 ((rd_T33 l0_1 x102_4).f1) p127 q127; obtain rfl : (⟨go24, 0, none⟩ : Addr) = ad127 := (by injection e127)
                           (first | simp only [add_plain] at hx127_0 | simp only [add_at] at hx127_0 | simp only [Addr.add, Nat.zero_add] at hx127_0 | skip); replace p127 := eq_true p127; replace q127 := eq_true q127; have p128 : 0 ≤ (x14_3 : Int) := ua; have q128 : x14_3 < (x11_4.length : Int) := ua; obtain ⟨ad128, e128, hx128_0⟩ := Kd.at_int (Kd.R_reads' HO_11.out).2.2 x14_3 p128 q128; obtain rfl : (⟨go24, 0, none⟩ : Addr) = ad128 := (by injection e128)
                           (first | simp only [add_plain] at hx128_0 | simp only [add_at] at hx128_0 | simp only [Addr.add, Nat.zero_add] at hx128_0 | skip); replace p128 := eq_true p128; replace q128 := eq_true q128; have p76 : 0 ≤ (((rd_T33 l0_1 x102_4).f1) : Int) := ua; have q76 : (((rd_T33 l0_1 x102_4).f1) : Int) < ((x11_4.length : Int) : Int) := ua; obtain ⟨hx76_0, hf76_0⟩ := Kd.R_celln 0 HO_11.out (((rd_T33 l0_1 x102_4).f1) : Int) p76 q76; replace p76 := eq_true p76; replace q76 := eq_true q76; have HP72 := Kd.R_putn HO_11.out (((rd_T33 l0_1 x102_4).f1) : Int) ji75; rw [← Ny129.out] at HP72; have HQ72 := Aside0.mk HP72; clear HP72; refine start_ (n := 18) (S := fun w' => w'.cell? ⟨gb126, 0, none⟩ = some (.int .i64 ((rd_T33 l0_1 x102_4).f0)) ∧ w'.cell? ⟨gb126, 1, none⟩ = some (.int .i64 ((rd_T33 l0_1 x102_4).f1)) ∧ w'.cell? ⟨gb126, 2, none⟩ = some (.int .i64 ((rd_T33 l0_1 x102_4).f2)) ∧ w'.cell? ⟨gb126, 3, none⟩ = some (.int .i64 ((rd_T33 l0_1 x102_4).f3)) ∧ w'.cell? ⟨gb126, 4, none⟩ = some (.int .i64 ((rd_T33 l0_1 x102_4).f4)) ∧ w'.cell? ⟨go24, (((rd_T33 l0_1 x102_4).f1)).toNat, none⟩ = some (.int .i64 (rd x11_4 ((rd_T33 l0_1 x102_4).f1))) ∧ w'.cell? ⟨go24, (x14_3).toNat, none⟩ = some (.int .i64 (rd x11_4 x14_3))) (ds := [17]) #[false,false,false,false,false,false,false,false,false,false,false,false,false,false,false,false,false,false] (by kernel_rfl) rfl rfl ⟨(blk_cell BK126.out 0).trans rfl, (blk_cell BK126.out 1).trans rfl, (blk_cell BK126.out 2).trans rfl, (blk_cell BK126.out 3).trans rfl, (blk_cell BK126.out 4).trans rfl, hx127_0, hx128_0⟩ (fun hHeld => ?_); refine with_tabW impl_MarkNear.tab27 impl_MarkNear.bits27 (fun HT_ HW_ => ?_); generalize w70.drew = w71 at HO_10 HO_11 HO_12 BK101 BK126 HB HQ72 hf76_0 hx127_0 hx128_0 hx76_0 hHeld ⊢; refine pure_ (i := 0) (N := some 110) (v := ?_) (a' := ?_) #[true,false,false,false,false,false,false,false,false,false,false,false,false,false,false,false,false,false] rfl rfl (any_of HT_.out (by kernel_rfl)) (fun _ _ _ h => h) (Or.inl ⟨by rfl, ?_⟩) ?_ ?_; rotate_left; (intro w'; go_simp; with_reducible rfl); rotate_left; (simp only [Act.put, List.setIfInBounds_toArray, List.set_cons_zero, List.set_cons_succ, i64_w, i32_w]; rfl); refine pure_ (i := 1) (N := some 111) (v := ?_) (a' := ?_) #[true,true,false,false,false,false,false,false,false,false,false,false,false,false,false,false,false,false] rfl rfl (any_of HT_.out (by kernel_rfl)) (fun _ _ _ h => h) (Or.inl ⟨by rfl, ?_⟩) ?_ ?_; rotate_left; (intro w'; go_simp; with_reducible rfl); rotate_left; (simp only [Act.put, List.setIfInBounds_toArray, List.set_cons_zero, List.set_cons_succ, i64_w, i32_w]; rfl); refine pure_ (i := 3) (N := some 113) (v := ?_) (a' := ?_) #[true,true,false,true,false,false,false,false,false,false,false,false,false,false,false,false,false,false] rfl rfl (any_of HT_.out (by kernel_rfl)) (fun _ _ _ h => h) (Or.inl ⟨by rfl, ?_⟩) ?_ ?_; rotate_left; (intro w'; go_simp; with_reducible rfl); rotate_left; (simp only [Act.put, List.setIfInBounds_toArray, List.set_cons_zero, List.set_cons_succ, i64_w, i32_w]; rfl); refine pure_ (i := 4) (N := some 114) (v := ?_) (a' := ?_) #[true,true,false,true,true,false,false,false,false,false,false,false,false,false,false,false,false,false] rfl rfl (any_of HT_.out (by kernel_rfl)) (fun _ _ _ h => h) (Or.inl ⟨by rfl, ?_⟩) ?_ ?_; rotate_left; (intro w'; go_simp; with_reducible rfl); rotate_left; (simp only [Act.put, List.setIfInBounds_toArray, List.set_cons_zero, List.set_cons_succ, i64_w, i32_w]; rfl); refine pure_ (i := 8) (N := some 118) (v := ?_) (a' := ?_) #[true,true,false,true,true,false,false,false,true,false,false,false,false,false,false,false,false,false] rfl rfl (any_of HT_.out (by kernel_rfl)) (fun _ _ _ h => h) (Or.inl ⟨by rfl, ?_⟩) ?_ ?_; rotate_left; (intro w'; go_simp; with_reducible rfl); rotate_left; (simp only [Act.put, List.setIfInBounds_toArray, List.set_cons_zero, List.set_cons_succ, i64_w, i32_w]; rfl); refine pure_ (i := 9) (N := some 119) (v := ?_) (a' := ?_) #[true,true,false,true,true,false,false,false,true,true,false,false,false,false,false,false,false,false] rfl rfl (any_of HT_.out (by kernel_rfl)) (fun _ _ _ h => h) (Or.inl ⟨by rfl, ?_⟩) ?_ ?_; rotate_left; (intro w'; go_simp; with_reducible rfl); rotate_left; (simp only [Act.put, List.setIfInBounds_toArray, List.set_cons_zero, List.set_cons_succ, i64_w, i32_w]; rfl); refine pure_ (i := 10) (N := some 120) (v := ?_) (a' := ?_) #[true,true,false,true,true,false,false,false,true,true,true,false,false,false,false,false,false,false] rfl rfl (any_of HT_.out (by kernel_rfl)) (fun _ _ _ h => h) (Or.inl ⟨by rfl, ?_⟩) ?_ ?_; rotate_left; (intro w'; go_simp; with_reducible rfl); rotate_left; (simp only [Act.put, List.setIfInBounds_toArray, List.set_cons_zero, List.set_cons_succ, i64_w, i32_w]; rfl); refine pure_ (i := 12) (N := some 122) (v := ?_) (a' := ?_) #[true,true,false,true,true,false,false,false,true,true,true,false,true,false,false,false,false,false] rfl rfl (any_of HT_.out (by kernel_rfl)) (fun _ _ _ h => h) (Or.inl ⟨by rfl, ?_⟩) ?_ ?_; rotate_left; (intro w'; go_simp; with_reducible rfl); rotate_left; (simp only [Act.put, List.setIfInBounds_toArray, List.set_cons_zero, List.set_cons_succ, i64_w, i32_w]; rfl); refine take_ (i := 2) (N := some 112) (v := ?_) (a' := ?_) #[true,true,true,true,true,false,false,false,true,true,true,false,true,false,false,false,false,false] rfl rfl (take_ofW HT_.out HW_.out (by kernel_rfl)) (fun _ _ _ h => h) (Or.inl ⟨by rfl, ?_⟩) hHeld ?_ ?_; rotate_left; (rintro w' ⟨s0, s1, s2, s3, s4, s5, s6⟩; go_simp; with_reducible rfl); rotate_left; (simp only [Act.put, List.setIfInBounds_toArray, List.set_cons_zero, List.set_cons_succ, i64_w, i32_w]; rfl); refine take_ (i := 5) (N := some 115) (v := ?_) (a' := ?_) #[true,true,true,true,true,true,false,false,true,true,true,false,true,false,false,false,false,false] rfl rfl (take_ofW HT_.out HW_.out (by kernel_rfl)) (fun _ _ _ h => h) (Or.inl ⟨by rfl, ?_⟩) hHeld ?_ ?_; rotate_left; (rintro w' ⟨s0, s1, s2, s3, s4, s5, s6⟩; go_simp; with_reducible rfl); rotate_left; (simp only [Act.put, List.setIfInBounds_toArray, List.set_cons_zero, List.set_cons_succ, i64_w, i32_w]; rfl); refine pure_ (i := 6) (N := some 116) (v := ?_) (a' := ?_) #[true,true,true,true,true,true,true,false,true,true,true,false,true,false,false,false,false,false] rfl rfl (any_of HT_.out (by kernel_rfl)) (fun _ _ _ h => h) (Or.inl ⟨by rfl, ?_⟩) ?_ ?_; rotate_left; (intro w'; go_simp; with_reducible rfl); rotate_left; (simp only [Act.put, List.setIfInBounds_toArray, List.set_cons_zero, List.set_cons_succ, i64_w, i32_w]; rfl); refine take_ (i := 7) (N := some 117) (v := ?_) (a' := ?_) #[true,true,true,true,true,true,true,true,true,true,true,false,true,false,false,false,false,false] rfl rfl (take_ofW HT_.out HW_.out (by kernel_rfl)) (fun _ _ _ h => h) (Or.inl ⟨by rfl, ?_⟩) hHeld ?_ ?_; rotate_left; (rintro w' ⟨s0, s1, s2, s3, s4, s5, s6⟩; go_simp; with_reducible rfl); rotate_left; (simp only [Act.put, List.setIfInBounds_toArray, List.set_cons_zero, List.set_cons_succ, i64_w, i32_w]; rfl); refine take_ (i := 11) (N := some 121) (v := ?_) (a' := ?_) #[true,true,true,true,true,true,true,true,true,true,true,true,true,false,false,false,false,false] rfl rfl (take_ofW HT_.out HW_.out (by kernel_rfl)) (fun _ _ _ h => h) (Or.inl ⟨by rfl, ?_⟩) hHeld ?_ ?_; rotate_left; (rintro w' ⟨s0, s1, s2, s3, s4, s5, s6⟩; go_simp; with_reducible rfl); rotate_left; (simp only [Act.put, List.setIfInBounds_toArray, List.set_cons_zero, List.set_cons_succ, i64_w, i32_w]; rfl); refine take_ (i := 13) (N := some 123) (v := ?_) (a' := ?_) #[true,true,true,true,true,true,true,true,true,true,true,true,true,true,false,false,false,false] rfl rfl (take_ofW HT_.out HW_.out (by kernel_rfl)) (fun _ _ _ h => h) (Or.inl ⟨by rfl, ?_⟩) hHeld ?_ ?_; rotate_left; (rintro w' ⟨s0, s1, s2, s3, s4, s5, s6⟩; go_simp; with_reducible rfl); rotate_left; (simp only [Act.put, List.setIfInBounds_toArray, List.set_cons_zero, List.set_cons_succ, i64_w, i32_w]; rfl); refine pure_ (i := 14) (N := some 124) (v := ?_) (a' := ?_) #[true,true,true,true,true,true,true,true,true,true,true,true,true,true,true,false,false,false] rfl rfl (any_of HT_.out (by kernel_rfl)) (fun _ _ _ h => h) (Or.inl ⟨by rfl, ?_⟩) ?_ ?_; rotate_left; (intro w'; go_simp; with_reducible rfl); rotate_left; (simp only [Act.put, List.setIfInBounds_toArray, List.set_cons_zero, List.set_cons_succ, i64_w, i32_w]; rfl); refine pure_ (i := 15) (N := some 125) (v := ?_) (a' := ?_) #[true,true,true,true,true,true,true,true,true,true,true,true,true,true,true,true,false,false] rfl rfl (any_of HT_.out (by kernel_rfl)) (fun _ _ _ h => h) (Or.inl ⟨by rfl, ?_⟩) ?_ ?_; rotate_left; (intro w'; go_simp; with_reducible rfl); rotate_left; (simp only [Act.put, List.setIfInBounds_toArray, List.set_cons_zero, List.set_cons_succ, i64_w, i32_w]; rfl); refine pure_ (i := 16) (N := some 126) (v := ?_) (a' := ?_) #[true,true,true,true,true,true,true,true,true,true,true,true,true,true,true,true,true,false] rfl rfl (any_of HT_.out (by kernel_rfl)) (fun _ _ _ h => h) (Or.inl ⟨by rfl, ?_⟩) ?_ ?_; rotate_left; (intro w'; go_simp; with_reducible rfl); rotate_left; (simp only [Act.put, List.setIfInBounds_toArray, List.set_cons_zero, List.set_cons_succ, i64_w, i32_w]; rfl); refine last_ (i := 17) (N := none) #[true,true,true,true,true,true,true,true,true,true,true,true,true,true,true,true,true,true] rfl rfl (one_of HT_.out (by kernel_rfl)) (by decide) (fun K hK => ?_); refine skip_ (w1 := ?_) (by rfl) rfl ?_ ?_; rotate_left
                           ·
                            go_simp; rfl
                           refine hK.out _ _ ?_; clear hK K; refine done_ (done_of HT_.out (by kernel_rfl)) ?_; try go_wp2
                           (try simp only [← hl11_4, ← hl12_4]); go_roundg k4
                           case measure => have := HJ4.out; have := HK2.out; have := HK3.out; have := HK4.out; omega
                           case rel => exact ⟨(y129), (wrap64 (x102_4 + 1)), ue, H', ⟨by have := HJ4.out; have := HK2.out; have := HK3.out; have := HK4.out; omega⟩, ⟨by (try simp only [hl11_2]); (try simp only [hl11_4]); (try simp only [hl12_4]); (with_reducible repeat (first | apply Kd.S_alloc | apply Kd.S_drewN | apply Kd.S_drew)); exact Kd.S_mono (Kd.S_far (p := ⟨go24, (((rd_T33 l0_1 x102_4).f1) : Int).toNat, none⟩) (Kd.S_mono HO_10.out (fun k_ hk => (⟨hk, fun e_ => hk (by rw [e_]; rfl)⟩ : _ ∧ k_ ≠ go24))) (fun _ hk => hk.2) (.int .i64 ji75)) (fun _ hk => hk.1)⟩, ⟨by (try simp only [hl11_2]); (try simp only [hl11_4]); (try simp only [hl12_4]); exact ur HQ72⟩, ⟨by (try simp only [hl11_2]); (try simp only [hl11_4]); (try simp only [hl12_4]); (with_reducible repeat (first | apply Kd.R_alloc | apply Kd.R_drewN | apply Kd.R_drew)); exact Kd.R_mono (Kd.R_far (p := ⟨go24, (((rd_T33 l0_1 x102_4).f1) : Int).toNat, none⟩) (Kd.R_types2 HO_12.out (Kd.R_typed HO_11.out) rfl (by decide)) (fun _ hk => hk.2) (.int .i64 ji75)) (fun _ hk => trivial)⟩, ⟨by (try simp only [hl11_2]); (try simp only [hl11_4]); (try simp only [hl12_4]); (with_reducible repeat first | apply zbn | apply zbd | apply zba); refine blk_far ?_ (by have h_ := Kd.R_ne HO_11.out BK101.out (by decide); intro e_; exact h_ (by rw [e_]; rfl)) _; exact ub BK101⟩, ⟨uB3 HB GB24.out GE101.out GE126.out⟩⟩
                          ·
                           rw [if_neg c74] at H; exact absurd H (by simp)
                         ·
                          rw [if_neg c73] at H; exact absurd H (by simp)
                        ·
                         rw [if_neg c72] at H; exact absurd H (by simp)
                       ·
                        rw [if_neg c71] at H; exact absurd H (by simp)
                      ·
                       rw [if_neg c70] at H; have c70b0 : (((rd_T33 l0_1 x102_4).f0) == x14_3) = false := beq_eq_false_iff_ne.mpr c70; have c70b1 : (((rd_T33 l0_1 x102_4).f0) != x14_3) = true := bne_iff_ne.mpr c70; have H' := Aside0.mk H; clear H; go_wp2; (try simp only [← hl11_4, ← hl12_4]); go_roundg k4
                       case measure => have := HJ4.out; have := HK2.out; have := HK3.out; have := HK4.out; omega
                       case rel => exact ⟨(x11_4), (wrap64 (x102_4 + 1)), ue, H', ⟨by have := HJ4.out; have := HK2.out; have := HK3.out; have := HK4.out; omega⟩, ⟨by (try simp only [hl11_2]); (try simp only [hl11_4]); (try simp only [hl12_4]); (with_reducible repeat (first | apply Kd.S_alloc | apply Kd.S_drewN | apply Kd.S_drew)); exact Kd.S_mono (Kd.S_far (p := ⟨gb126, 4, none⟩) (Kd.S_far (p := ⟨gb126, 3, none⟩) (Kd.S_far (p := ⟨gb126, 2, none⟩) (Kd.S_far (p := ⟨gb126, 1, none⟩) (Kd.S_far (p := ⟨gb126, 0, none⟩) (Kd.S_types HO_10.out BK126.out (by decide)) (fun _ hk => hk.2) (.int .i64 ((rd_T33 l0_1 x102_4).f0))) (fun _ hk => hk.2) (.int .i64 ((rd_T33 l0_1 x102_4).f1))) (fun _ hk => hk.2) (.int .i64 ((rd_T33 l0_1 x102_4).f2))) (fun _ hk => hk.2) (.int .i64 ((rd_T33 l0_1 x102_4).f3))) (fun _ hk => hk.2) (.int .i64 ((rd_T33 l0_1 x102_4).f4))) (fun _ hk => hk.1)⟩, ⟨by (try simp only [hl11_2]); (try simp only [hl11_4]); (try simp only [hl12_4]); (with_reducible repeat (first | apply Kd.R_alloc | apply Kd.R_drewN | apply Kd.R_drew)); exact Kd.R_mono (Kd.R_far (p := ⟨gb126, 4, none⟩) (Kd.R_far (p := ⟨gb126, 3, none⟩) (Kd.R_far (p := ⟨gb126, 2, none⟩) (Kd.R_far (p := ⟨gb126, 1, none⟩) (Kd.R_far (p := ⟨gb126, 0, none⟩) (Kd.R_types HO_11.out BK126.out (by decide)) (fun _ hk => hk.2) (.int .i64 ((rd_T33 l0_1 x102_4).f0))) (fun _ hk => hk.2) (.int .i64 ((rd_T33 l0_1 x102_4).f1))) (fun _ hk => hk.2) (.int .i64 ((rd_T33 l0_1 x102_4).f2))) (fun _ hk => hk.2) (.int .i64 ((rd_T33 l0_1 x102_4).f3))) (fun _ hk => hk.2) (.int .i64 ((rd_T33 l0_1 x102_4).f4))) (fun _ hk => trivial)⟩, ⟨by (try simp only [hl11_2]); (try simp only [hl11_4]); (try simp only [hl12_4]); (with_reducible repeat (first | apply Kd.R_alloc | apply Kd.R_drewN | apply Kd.R_drew)); exact Kd.R_mono (Kd.R_far (p := ⟨gb126, 4, none⟩) (Kd.R_far (p := ⟨gb126, 3, none⟩) (Kd.R_far (p := ⟨gb126, 2, none⟩) (Kd.R_far (p := ⟨gb126, 1, none⟩) (Kd.R_far (p := ⟨gb126, 0, none⟩) (Kd.R_types HO_12.out BK126.out (by decide)) (fun _ hk => hk.2) (.int .i64 ((rd_T33 l0_1 x102_4).f0))) (fun _ hk => hk.2) (.int .i64 ((rd_T33 l0_1 x102_4).f1))) (fun _ hk => hk.2) (.int .i64 ((rd_T33 l0_1 x102_4).f2))) (fun _ hk => hk.2) (.int .i64 ((rd_T33 l0_1 x102_4).f3))) (fun _ hk => hk.2) (.int .i64 ((rd_T33 l0_1 x102_4).f4))) (fun _ hk => trivial)⟩, ⟨by (try simp only [hl11_2]); (try simp only [hl11_4]); (try simp only [hl12_4]); (with_reducible repeat first | apply zbn | apply zbd | apply zba); refine blk_far ?_ NB101_126.out _; (with_reducible repeat first | apply zbn | apply zbd | apply zba); refine blk_far ?_ NB101_126.out _; (with_reducible repeat first | apply zbn | apply zbd | apply zba); refine blk_far ?_ NB101_126.out _; (with_reducible repeat first | apply zbn | apply zbd | apply zba); refine blk_far ?_ NB101_126.out _; (with_reducible repeat first | apply zbn | apply zbd | apply zba); refine blk_far ?_ NB101_126.out _; exact ub BK101⟩, ⟨uB2 HB GE101.out GE126.out⟩⟩
                     ·
                      rw [if_neg c66] at H; exact absurd H (by simp)
                    ·
                     rw [if_neg c65] at H; exact absurd H (by simp)
                   ·
                    rw [if_neg c64] at H; have c64b0 : decide (x102_4 < (l0_1.length : Int)) = false := decide_eq_false c64; clear c64; have H' := Aside0.mk H; clear H; go_wp2; (try simp only [← hl11_2, ← hl11_4, ← hl12_4]); go_roundg k4
                    case measure => have := HJ4.out; have := HK2.out; have := HK3.out; have := HK4.out; omega
                    case rel => exact ⟨(x11_4), (y123), ((wrap64 (x13_2 + 1))), ue, H', ⟨by have := HJ4.out; have := HK2.out; have := HK3.out; have := HK4.out; omega⟩, ⟨by (try simp only [hl11_2]); (try simp only [hl11_4]); (try simp only [hl12_4]); (with_reducible repeat (first | apply Kd.S_alloc | apply Kd.S_drewN | apply Kd.S_drew)); exact HO_10.out⟩, ⟨by (try simp only [hl11_2]); (try simp only [hl11_4]); (try simp only [hl12_4]); exact ur HO_11⟩, ⟨by (try simp only [hl11_2]); (try simp only [hl11_4]); (try simp only [hl12_4]); exact ur HO_12⟩, ⟨by (try simp only [hl11_2]); (try simp only [hl11_4]); (try simp only [hl12_4]); exact ub BK101⟩, ⟨uB1 HB GE101.out⟩⟩
               ·
                rw [if_neg c57] at H; exact absurd H (by simp)
              ·
               rw [if_neg c56] at H; exact absurd H (by simp)
       ·
        rw [if_neg c26] at H; exact absurd H (by simp)
      ·
       rw [if_neg c25] at H; exact absurd H (by simp)
     ·
      rw [if_neg c23] at H; exact absurd H (by simp)
    ·
     rw [if_neg c22] at H; exact absurd H (by simp)

end Go.Proofs.Ytjmpngfgfddpaaa.P
