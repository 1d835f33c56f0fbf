-- written for this claim by a program (wip/gen/myprint.py over the print tool). Not trusted: Lean checks it.
import Derived.Test.YtblpdfgplifccaaPx0
import Derived.Test.YtblpdfgplifccaaHUp
import Derived.Test.YtblpdfgplifccaaPFSpecL30Open
import Derived.Test.YtblpdfgplifccaaPFSpecL30RdPick
namespace Go.Proofs.Ytblpdfgplifccaa.P
open Go.RowKit Go.Proofs.YtblpdfgplifccaaV.PrintWords Go.Proofs.YtblpdfgplifccaaV.PrintLast
set_option linter.unusedVariables false
set_option linter.unusedSimpArgs false

/-! ### spec_l30Part: function 78 -/
def spec_l30Part.l0 : Nat → List Int → Int → Int → List Int → Int → Int → List (S33) → Option (List Int × Int)
 | 0, _, _, _, _, _, _, _ => none
 | k + 1, x5, x6, x7, x1000, x1001, x102000, x102001 => if x7 < x102000 then ((spec_l30Rd_pick.f k x1000 x1001 x6).bind fun bt107 => (if x5.length < 17592186044416 then (spec_l30Part.l0 k (x5 ++ [bt107.1]) x6 (wrap64 (x7 + 1)) x1000 bt107.2 x102000 x102001) else (none))) else ((spec_l30Rd_pick.f k x1000 x1001 14).bind fun bt112 => (if bt112.1 = 0 then (if x5.length < 17592186044416 then (some ((x5 ++ [0]), bt112.2)) else (none)) else (some (x5, bt112.2))))
def spec_l30Part.f (k : Nat) (s0_0 : List Int) (s0_1 : Int) (a1_0 : Int) (l1_1 : List (S33)) : Option (List Int × Int) := (spec_l30Rd_pick.f k s0_0 s0_1 4).bind fun bt105 => (spec_l30Part.l0 k (([] : List Int)) (wrap64 (1 + bt105.1)) 0 s0_0 bt105.2 a1_0 l1_1)
set_option maxHeartbeats 8000000 in
set_option maxRecDepth 100000 in
theorem spec_l30Part.calls (k : Nat) (g : Nat) (s0_0 : List Int) (s0_1 : Int) (a1_0 : Int) (A1_1 : Option Addr) (c1_1 : Nat) (l1_1 : List (S33)) (r1 : List Int) (r2 : Int) (w0 w : World) (hI : IsS91 w0 w g s0_0 s0_1) (hB : Below w0.heap.size w0 w) (hr1_1 : ∀ W_, KeepBut w W_ g none → Kd.C k33 W_ A1_1 l1_1.length l1_1) (hc1_1 : l1_1.length ≤ c1_1) (h : spec_l30Part.f k s0_0 s0_1 a1_0 l1_1 = some (r1, r2)) :
  Calls Try.prog 78 #[.pointer (some ⟨g, 0, none⟩), .agg #[.int .i64 a1_0, .slice A1_1 l1_1.length c1_1]] w fun e w' => ∃ v0_ : Value, e = .returned (v0_) ∧ Kd.R (Kd.int .i64) 3 w' w.heap.size (fun _ => True) v0_ r1 ∧ IsS91 w0 w' g s0_0 r2 ∧ Below w0.heap.size w0 w' ∧ KeepBut w w' g none := by
 have hu25 := Try.underlying25
 have HR1_1 := Aside0.mk hr1_1
 have HC1_1 := Aside0.mk hc1_1
 clear hr1_1 hc1_1
 have HI0 := Aside0.mk hI
 have HK := Aside0.mk (KeepBut.refl w g none)
 have HL := Aside0.mk hB.size
 have HGL0 := Aside0.mk (IsS91.lt hI)
 clear hI
 have HW0 := Aside0.mk hB.size
 have HB := Aside0.mk hB
 clear hB
 have H : ((spec_l30Rd_pick.f k s0_0 s0_1 4).bind fun bt105 => (spec_l30Part.l0 k (([] : List Int)) (wrap64 (1 + bt105.1)) 0 s0_0 bt105.2 a1_0 l1_1)) = some (r1, r2) := h
 clear h
 obtain ⟨y102, hy102⟩ : ∃ y_ : List Int, y_ = (([] : List Int)) := ⟨_, rfl⟩
 replace H : ((spec_l30Rd_pick.f k s0_0 s0_1 4).bind fun bt105 => (spec_l30Part.l0 k y102 (wrap64 (1 + bt105.1)) 0 s0_0 bt105.2 a1_0 l1_1)) = some (r1, r2) := by first | (rw [hy102]; with_reducible exact H) | (have H2_ := (Option.bind_some _ _).symm.trans H; rw [hy102]; with_reducible exact H2_) | (have H2_ := (Option.bind_some _ _).symm.trans H; with_reducible exact H2_) | with_reducible exact H | (rw [hy102]; exact H) | exact H
 have Ny102 := Aside0.mk hy102
 clear hy102
 replace H := Option.bind_eq_some_iff.mp H
 obtain ⟨⟨t105, t106⟩, A30, H⟩ := H
 replace H : (spec_l30Part.l0 k y102 (wrap64 (1 + t105)) 0 s0_0 t106 a1_0 l1_1) = some (r1, r2) := H
 have A3 := Aside0.mk A30
 clear A30
 have H' := Aside0.mk H
 clear H
 go_enter Try.func78, Try.ntmps78
 go_wp2_with (first | ((with_reducible refine gate_dst (N := 3) rfl ?_); refine be (cs := #[.int .i64 a1_0, .slice A1_1 l1_1.length c1_1]) (t := 25) ?_; intro gb101 hg w4 hbox hb; replace HB := Aside0.mk (below_step (uB1 HB (IsS91.ge HI0.out)) hb); replace HI0 := Aside0.mk (IsS91.below (uI0 HI0) hb); have BK101 := Aside0.mk (hbox); have GW101 := Aside0.mk ((by rw [hg]; exact (keep_size (w := w) (g := g) (row := none) (uK0 HK)) : w.heap.size ≤ gb101)); have GE101 := Aside0.mk ((Nat.le_trans HW0.out (by rw [hg]; exact (keep_size (w := w) (g := g) (row := none) (uK0 HK)) : w.heap.size ≤ gb101) : w0.heap.size ≤ gb101)); have NB0_101 := Aside0.mk ((by rw [hg]; exact Nat.ne_of_lt (Nat.lt_of_lt_of_le HGL0.out (keep_size (w := w) (g := g) (row := none) (uK0 HK))) : g ≠ gb101)); have NB101_0 := Aside0.mk ((by rw [hg]; exact Nat.ne_of_gt (Nat.lt_of_lt_of_le HGL0.out (keep_size (w := w) (g := g) (row := none) (uK0 HK))) : gb101 ≠ g)); replace HK := Aside0.mk (KeepBut.trans (uK0 HK) (KeepBut.of_below hb g none) (.inl rfl)); clear hb hbox hg) | ((with_reducible refine gate_dst (N := 8) rfl ?_); refine Kd.R_lit (Kd.int .i64) _ 3 ?hg (N := 8) ?hd (xs := ([] : List Int)) (inner := []) (ok := fun _ => True) (okp := fun _ => True) ?hr ?hp (fun _ hk => hk) trivial (Below.refl _ _) (Nat.le_refl _) (by simp) ?_; (case hd => rfl); (case hg => rfl); (case hr => first | (go_simp; done) | (go_simp; rfl)); (case hp => exact (Reps.none _ _)); intro v103 w5 ho6 hb hg_ hnew_; clear hg_ hnew_; (first | rw [← Ny102.out] at ho6 | (simp only [Int.reduceToNat] at ho6; rw [← Ny102.out] at ho6)); have HO104 := Aside0.mk (Kd.R_lower ho6 (keep_size (w := w) (g := g) (row := none) (uK1 HK GW101.out))); replace BK101 := bb BK101 hb; replace HK := Aside0.mk (KeepBut.trans (uK1 HK GW101.out) (KeepBut.of_below hb g none) (.inl rfl)); replace HB := Aside0.mk (below_step (uB2 HB (IsS91.ge HI0.out) GE101.out) hb); replace HI0 := Aside0.mk (IsS91.below (uI1 HI0 NB0_101.out) hb); clear hb ho6) | ((with_reducible refine gate_callee (f := 80) rfl ?_); refine goesL_ (some 10) rfl rfl Try.func80 (by kernel_rfl) rfl #[.pointer (some ⟨g, 0, none⟩), .int .i64 4] rfl ul ?_; (with_reducible refine (spec_l30Rd_pick.calls k g s0_0 s0_1 4 t105 t106 w0 _ ?side1 ?side2 A3.out).mono ?_); (case side1 => exact uI1 HI0 NB0_101.out); (case side2 => exact uB2 HB (IsS91.ge HI0.out) GE101.out); rintro e w7 ⟨rfl, hi, hb, hk⟩; refine ⟨_, rfl, ?_⟩; replace BK101 := Aside0.mk (KeepBut.blk hk (g' := gb101) (o := .cells #[.int .i64 a1_0, .slice A1_1 l1_1.length c1_1] 25 (0, 0)) (ub BK101) NB101_0.out (by simp)); replace HO104 := Aside0.mk (Kd.R_mono (Kd.R_keep (IsS91.apart (show IsS91 w0 _ g s0_0 s0_1 from uI1 HI0 NB0_101.out) (ur HO104) (by decide)) hk (fun _ h => h.2)) (fun _ h => h.1)); replace HK := Aside0.mk (KeepBut.trans (uK1 HK GW101.out) hk (.inl rfl)); replace HB := Aside0.mk (hb); replace HI0 := Aside0.mk (hi); (try clear hb); (try clear hb2); (try clear hk); (try clear hi)))
 go_loopg [5, 7] k (fun kq v5 v7 w' => ∃ (x5_1 : List Int) (x7_1 : Int) (x1001_1 : Int), v7 = .int .i64 x7_1 ∧ Aside0 (spec_l30Part.l0 kq x5_1 (wrap64 (1 + t105)) x7_1 s0_0 x1001_1 a1_0 l1_1 = some (r1, r2)) ∧ Aside0 (kq ≤ k) ∧ Aside0 (Kd.R (Kd.int .i64) 3 w' w.heap.size (fun _ => True) v5 x5_1) ∧ Aside0 (w'.heap[gb101]? = some (.cells #[.int .i64 a1_0, (.slice A1_1 l1_1.length c1_1)] 25 (0, 0))) ∧ Aside0 (IsS91 w0 w' g s0_0 x1001_1) ∧ Aside0 (KeepBut w w' g none) ∧ Aside0 (Below w0.heap.size w0 w'))
 case atStart => exact ⟨(y102), (0), (t106), ue, H', ⟨Nat.le_refl _⟩, ⟨ur HO104⟩, ⟨ub BK101⟩, ⟨uI1 HI0 NB0_101.out⟩, ⟨uK1 HK GW101.out⟩, ⟨uB2 HB (IsS91.ge HI0.out) GE101.out⟩⟩
 case round =>
  clear H'; try clear c1
  try clear p2
  try clear p6
  try clear c7
  obtain ⟨x5_1, x7_1, x1001_1, rfl, HA, HK1, HO_5, BK101, HI0, HK, HB⟩ := hrel
  cases gk with
  | zero => exact absurd HA.out (by simp [spec_l30Part.l0])
  | succ k1 =>
   have H := HA.out; clear HA; simp only [spec_l30Part.l0] at H; by_cases c8 : x7_1 < a1_0
   ·
    rw [if_pos c8] at H; have c8b0 := dl c8; clear c8; replace H := Option.bind_eq_some_iff.mp H; obtain ⟨⟨t107, t108⟩, A90, H⟩ := H; replace H : (if x5_1.length < 17592186044416 then (spec_l30Part.l0 k1 (x5_1 ++ [t107]) (wrap64 (1 + t105)) (wrap64 (x7_1 + 1)) s0_0 t108 a1_0 l1_1) else (none)) = some (r1, r2) := H; have A9 := Aside0.mk A90; clear A90; by_cases c10 : x5_1.length < 17592186044416
    ·
     rw [if_pos c10] at H; have LMc10 := Aside0.mk c10; clear c10; obtain ⟨y109, hy109⟩ : ∃ y_ : List Int, y_ = (x5_1 ++ [t107]) := ⟨_, rfl⟩
     replace H : (spec_l30Part.l0 k1 y109 (wrap64 (1 + t105)) (wrap64 (x7_1 + 1)) s0_0 t108 a1_0 l1_1) = some (r1, r2) := by first | (rw [hy109]; with_reducible exact H) | (have H2_ := (Option.bind_some _ _).symm.trans H; rw [hy109]; with_reducible exact H2_) | (have H2_ := (Option.bind_some _ _).symm.trans H; with_reducible exact H2_) | with_reducible exact H | (rw [hy109]; exact H) | exact H
     have Ny109 := Aside0.mk hy109; clear hy109; have H' := Aside0.mk H; clear H; have hnb11 := NB101_0.out; have hnc11 := NB0_101.out; obtain ⟨hcz12_0, hcz12_1, hfz12_0, hfz12_1⟩ := bc2 BK101; go_wp2_with (first | ((with_reducible refine gate_callee (f := 80) rfl ?_); refine goesL_ (some 21) rfl rfl Try.func80 (by kernel_rfl) rfl #[.pointer (some ⟨g, 0, none⟩), .int .i64 (wrap64 (1 + t105))] rfl ul ?_; (with_reducible refine (spec_l30Rd_pick.calls k1 g s0_0 x1001_1 (wrap64 (1 + t105)) t107 t108 w0 _ ?side1 ?side2 A9.out).mono ?_); (case side1 => exact uI1 HI0 NB0_101.out); (case side2 => exact uB2 HB (IsS91.ge HI0.out) GE101.out); rintro e w13 ⟨rfl, hi, hb, hk⟩; refine ⟨_, rfl, ?_⟩; replace HO_5 := Aside0.mk (Kd.R_mono (Kd.R_keep (IsS91.apart (show IsS91 w0 _ g s0_0 x1001_1 from uI1 HI0 NB0_101.out) (ur HO_5) (by decide)) hk (fun _ h => h.2)) (fun _ h => h.1)); replace BK101 := Aside0.mk (KeepBut.blk hk (g' := gb101) (o := .cells #[.int .i64 a1_0, .slice A1_1 l1_1.length c1_1] 25 (0, 0)) (ub BK101) NB101_0.out (by simp)); replace HK := Aside0.mk (KeepBut.trans (uK1 HK GW101.out) hk (.inl rfl)); replace HB := Aside0.mk (hb); replace HI0 := Aside0.mk (hi); (try clear hb); (try clear hb2); (try clear hk); (try clear hi)) | ((with_reducible refine gate_builtin (b := .append) (xs := #[.tmp 18, .tmp 22]) rfl ?_); at_builtin; refine Kd.R_append (Kd.int .i64) w.heap.size rfl (.tmp 18) (.tmp 22) 26 3 (.int .i64 0) 8 rfl Try.underlying26 info3 rfl (by decide) (by omega) u5 x5_1 t107 [.int .i64 t107] (fun _ => True) (fun _ => False) rfl rfl ?aP (fun _ hk => hk.elim) ?aF ?aO (Below.refl _ _) ?aS ?aL ?_; (case aP => exact rfl); (case aF => exact (fun _ _ => trivial)); (case aO => exact (ur HO_5)); (case aS => exact (keep_size (w := w) (g := g) (row := none) (uK1 HK GW101.out))); (case aL => have := LMc10.out; omega); intro v110 w14 ho hb hg hat; rw [← Ny109.out] at ho; replace BK101 := bg BK101 hg (Kd.R_ne HO_5.out BK101.out (by decide)); replace HB := Aside0.mk (below_weaken (uB2 HB (IsS91.ge HI0.out) GE101.out) HL.out hb); replace HI0 := Aside0.mk (IsS91.grown (uI1 HI0 NB0_101.out) hg (IsS91.own_ne HI0.out HO_5.out (by decide))); replace HK := Aside0.mk (KeepBut.trans (uK1 HK GW101.out) (KeepBut.of_grown hg g) (Kd.R_base2 HO_5.out)); have HO111 := Aside0.mk (ho); clear HO_5; clear ho hb hg hat)); go_roundg k1
     case measure => have := HK1.out; omega
     case rel => exact ⟨(y109), (wrap64 (x7_1 + 1)), (t108), ue, H', ⟨by have := HK1.out; omega⟩, ⟨ur HO111⟩, ⟨ub BK101⟩, ⟨uI1 HI0 NB0_101.out⟩, ⟨uK1 HK GW101.out⟩, ⟨uB2 HB (IsS91.ge HI0.out) GE101.out⟩⟩
    ·
     rw [if_neg c10] at H; exact absurd H (by simp)
   ·
    rw [if_neg c8] at H; have c8b0 := DL c8; clear c8; replace H := Option.bind_eq_some_iff.mp H; obtain ⟨⟨t112, t113⟩, A150, H⟩ := H; replace H : (if t112 = 0 then (if x5_1.length < 17592186044416 then (some ((x5_1 ++ [0]), t113)) else (none)) else (some (x5_1, t113))) = some (r1, r2) := H; have A15 := Aside0.mk A150; clear A150; by_cases c16 : t112 = 0
    ·
     rw [if_pos c16] at H; obtain ⟨c16b0, c16b1⟩ := dq c16; clear c16; by_cases c17 : x5_1.length < 17592186044416
     ·
      rw [if_pos c17] at H; have LMc17 := Aside0.mk c17; clear c17; obtain ⟨y114, hy114⟩ : ∃ y_ : List Int, y_ = (x5_1 ++ [0]) := ⟨_, rfl⟩
      replace H : (some (y114, t113)) = some (r1, r2) := by first | (rw [hy114]; with_reducible exact H) | (have H2_ := (Option.bind_some _ _).symm.trans H; rw [hy114]; with_reducible exact H2_) | (have H2_ := (Option.bind_some _ _).symm.trans H; with_reducible exact H2_) | with_reducible exact H | (rw [hy114]; exact H) | exact H
      have Ny114 := Aside0.mk hy114; clear hy114; simp only [Option.some.injEq, Prod.mk.injEq] at H; obtain ⟨rfl, rfl⟩ := H; have hnb18 := NB101_0.out; have hnc18 := NB0_101.out; obtain ⟨hcz19_0, hcz19_1, hfz19_0, hfz19_1⟩ := bc2 BK101; go_wp2_with (first | ((with_reducible refine gate_callee (f := 80) rfl ?_); refine goesL_ (some 25) rfl rfl Try.func80 (by kernel_rfl) rfl #[.pointer (some ⟨g, 0, none⟩), .int .i64 14] rfl ul ?_; (with_reducible refine (spec_l30Rd_pick.calls k1 g s0_0 x1001_1 14 t112 t113 w0 _ ?side1 ?side2 A15.out).mono ?_); (case side1 => exact uI1 HI0 NB0_101.out); (case side2 => exact uB2 HB (IsS91.ge HI0.out) GE101.out); rintro e w20 ⟨rfl, hi, hb, hk⟩; refine ⟨_, rfl, ?_⟩; replace HO_5 := Aside0.mk (Kd.R_mono (Kd.R_keep (IsS91.apart (show IsS91 w0 _ g s0_0 x1001_1 from uI1 HI0 NB0_101.out) (ur HO_5) (by decide)) hk (fun _ h => h.2)) (fun _ h => h.1)); replace BK101 := Aside0.mk (KeepBut.blk hk (g' := gb101) (o := .cells #[.int .i64 a1_0, .slice A1_1 l1_1.length c1_1] 25 (0, 0)) (ub BK101) NB101_0.out (by simp)); replace HK := Aside0.mk (KeepBut.trans (uK1 HK GW101.out) hk (.inl rfl)); replace HB := Aside0.mk (hb); replace HI0 := Aside0.mk (hi); (try clear hb); (try clear hb2); (try clear hk); (try clear hi)) | ((with_reducible refine gate_builtin (b := .append) (xs := #[.tmp 27, .tmp 28]) rfl ?_); at_builtin; refine Kd.R_append (Kd.int .i64) w.heap.size rfl (.tmp 27) (.tmp 28) 26 3 (.int .i64 0) 8 rfl Try.underlying26 info3 rfl (by decide) (by omega) u5 x5_1 0 [.int .i64 0] (fun _ => True) (fun _ => False) rfl rfl ?aP (fun _ hk => hk.elim) ?aF ?aO (Below.refl _ _) ?aS ?aL ?_; (case aP => exact rfl); (case aF => exact (fun _ _ => trivial)); (case aO => exact (ur HO_5)); (case aS => exact (keep_size (w := w) (g := g) (row := none) (uK1 HK GW101.out))); (case aL => have := LMc17.out; omega); intro v115 w21 ho hb hg hat; rw [← Ny114.out] at ho; replace BK101 := bg BK101 hg (Kd.R_ne HO_5.out BK101.out (by decide)); replace HB := Aside0.mk (below_weaken (uB2 HB (IsS91.ge HI0.out) GE101.out) HL.out hb); replace HI0 := Aside0.mk (IsS91.grown (uI1 HI0 NB0_101.out) hg (IsS91.own_ne HI0.out HO_5.out (by decide))); replace HK := Aside0.mk (KeepBut.trans (uK1 HK GW101.out) (KeepBut.of_grown hg g) (Kd.R_base2 HO_5.out)); have HO116 := Aside0.mk (ho); clear HO_5; clear ho hb hg hat)); go_ret; exact ⟨_, by first | rfl | (simp [errW_none, errW_some] <;> rfl) | (simp [*, errW_none, errW_some] <;> rfl), by (with_reducible repeat (first | apply Kd.R_alloc | apply Kd.R_drewN | apply Kd.R_drew)); exact HO116.out, uI1 HI0 NB0_101.out, uB2 HB (IsS91.ge HI0.out) GE101.out, uK1 HK GW101.out⟩
     ·
      rw [if_neg c17] at H; exact absurd H (by simp)
    ·
     rw [if_neg c16] at H; obtain ⟨c16b0, c16b1⟩ := dQ c16; simp only [Option.some.injEq, Prod.mk.injEq] at H; obtain ⟨rfl, rfl⟩ := H; have hnb22 := NB101_0.out; have hnc22 := NB0_101.out; obtain ⟨hcz23_0, hcz23_1, hfz23_0, hfz23_1⟩ := bc2 BK101; go_wp2_with (first | ((with_reducible refine gate_callee (f := 80) rfl ?_); refine goesL_ (some 25) rfl rfl Try.func80 (by kernel_rfl) rfl #[.pointer (some ⟨g, 0, none⟩), .int .i64 14] rfl ul ?_; (with_reducible refine (spec_l30Rd_pick.calls k1 g s0_0 x1001_1 14 t112 t113 w0 _ ?side1 ?side2 A15.out).mono ?_); (case side1 => exact uI1 HI0 NB0_101.out); (case side2 => exact uB2 HB (IsS91.ge HI0.out) GE101.out); rintro e w24 ⟨rfl, hi, hb, hk⟩; refine ⟨_, rfl, ?_⟩; replace HO_5 := Aside0.mk (Kd.R_mono (Kd.R_keep (IsS91.apart (show IsS91 w0 _ g s0_0 x1001_1 from uI1 HI0 NB0_101.out) (ur HO_5) (by decide)) hk (fun _ h => h.2)) (fun _ h => h.1)); replace BK101 := Aside0.mk (KeepBut.blk hk (g' := gb101) (o := .cells #[.int .i64 a1_0, .slice A1_1 l1_1.length c1_1] 25 (0, 0)) (ub BK101) NB101_0.out (by simp)); replace HK := Aside0.mk (KeepBut.trans (uK1 HK GW101.out) hk (.inl rfl)); replace HB := Aside0.mk (hb); replace HI0 := Aside0.mk (hi); (try clear hb); (try clear hb2); (try clear hk); (try clear hi))); go_ret; exact ⟨_, by first | rfl | (simp [errW_none, errW_some] <;> rfl) | (simp [*, errW_none, errW_some] <;> rfl), by (with_reducible repeat (first | apply Kd.R_alloc | apply Kd.R_drewN | apply Kd.R_drew)); exact HO_5.out, uI1 HI0 NB0_101.out, uB2 HB (IsS91.ge HI0.out) GE101.out, uK1 HK GW101.out⟩

end Go.Proofs.Ytblpdfgplifccaa.P
