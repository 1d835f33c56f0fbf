-- written for this claim by a program (wip/gen/myprint.py over the print tool). Not trusted: Lean checks it.
import Derived.Test.YtblpdfgplifccaaPx0
import Derived.Test.YtblpdfgplifccaaHUp
import Derived.Test.YtblpdfgplifccaaGBase
import Derived.Test.YtblpdfgplifccaaPFSpecL10Edge
namespace Go.Proofs.Ytblpdfgplifccaa.P
open Go.RowKit Go.Proofs.YtblpdfgplifccaaV.PrintWords Go.Proofs.YtblpdfgplifccaaV.PrintLast
set_option linter.unusedVariables false
set_option linter.unusedSimpArgs false

/-! ### spec_PartEdges: function 30 -/
mutual
def spec_PartEdges.l0 : Nat → List Int → List Int → Int → Int → List (S33) → Option (List Int)
 | 0, _, _, _, _, _ => none
 | k + 1, x1, x5, x6, x102000, x102001 => if x6 < x102000 then ((spec_l1Ok.f k x102000 x102001).bind fun t105 => (if t105 = true then ((spec_l10Parts.f k x102000 x102001 x1).bind fun t106 => (spec_PartEdges.j1 k x1 x5 x6 t106 x102000 x102001)) else (spec_PartEdges.j1 k x1 x5 x6 false x102000 x102001))) else (spec_PartEdges.j1 k x1 x5 x6 false x102000 x102001)
def spec_PartEdges.j1 : Nat → List Int → List Int → Int → Bool → Int → List (S33) → Option (List Int)
 | 0, _, _, _, _, _, _ => none
 | k + 1, x1, x5, x6, x20, x102000, x102001 => if x20 = true then ((spec_l10Edge.f k x102000 x102001 x1 x6).bind fun t107 => (if t107 = true then (if x5.length < 17592186044416 then (spec_PartEdges.l0 k x1 (x5 ++ [x6]) (wrap64 (x6 + 1)) x102000 x102001) else (none)) else (spec_PartEdges.l0 k x1 x5 (wrap64 (x6 + 1)) x102000 x102001))) else (some x5)
end
def spec_PartEdges.f (k : Nat) (a0_0 : Int) (l0_1 : List (S33)) (l1 : List Int) : Option (List Int) := spec_PartEdges.l0 k l1 (([] : List Int)) 0 a0_0 l0_1
set_option maxHeartbeats 8000000 in
set_option maxRecDepth 100000 in
theorem spec_PartEdges.calls (k : Nat) (a0_0 : Int) (A0_1 : Option Addr) (c0_1 : Nat) (l0_1 : List (S33)) (A1 : Option Addr) (c1 : Nat) (l1 : List Int) (r : List Int) (w : World) (hr0_1 : Kd.C k33 w A0_1 l0_1.length l0_1) (hc0_1 : l0_1.length ≤ c0_1) (hr1 : Kd.C (Kd.int .i64) w A1 l1.length l1) (hc1 : l1.length ≤ c1) (h : spec_PartEdges.f k a0_0 l0_1 l1 = some r) :
  Calls Try.prog 30 #[.agg #[.int .i64 a0_0, .slice A0_1 l0_1.length c0_1], .slice A1 l1.length c1] w fun e w' => ∃ v0_ : Value, e = .returned (v0_) ∧ Kd.R (Kd.int .i64) 3 w' w.heap.size (fun _ => True) v0_ r ∧ Below w.heap.size w w' := by
 have hu25 := Try.underlying25
 have HR0_1 := Aside0.mk hr0_1
 have HC0_1 := Aside0.mk hc0_1
 clear hr0_1 hc0_1
 have HR1 := Aside0.mk hr1
 have HC1 := Aside0.mk hc1
 clear hr1 hc1
 have HB := Aside0.mk (Below.refl w.heap.size w)
 have H : (spec_PartEdges.l0 k l1 (([] : List Int)) 0 a0_0 l0_1) = some r := h
 clear h
 obtain ⟨y102, hy102⟩ : ∃ y_ : List Int, y_ = (([] : List Int)) := ⟨_, rfl⟩
 replace H : (spec_PartEdges.l0 k l1 y102 0 a0_0 l0_1) = some r := by first | (rw [hy102]; with_reducible exact H) | (have H2_ := (Option.bind_some _ _).symm.trans H; rw [hy102]; with_reducible exact H2_) | (have H2_ := (Option.bind_some _ _).symm.trans H; with_reducible exact H2_) | with_reducible exact H | (rw [hy102]; exact H) | exact H
 have Ny102 := Aside0.mk hy102
 clear hy102
 have H' := Aside0.mk H
 clear H
 go_enter Try.func30, Try.ntmps30
 go_wp2_with (first | ((with_reducible refine gate_dst (N := 2) rfl ?_); refine be (cs := #[.int .i64 a0_0, .slice A0_1 l0_1.length c0_1]) (t := 25) ?_; intro gb101 hg w3 hbox hb; have BK101 := Aside0.mk (hbox); have GW101 := gz w hg (uB0 HB); have GE101 := gz w hg (uB0 HB); replace HB := Aside0.mk (below_step (uB0 HB) hb); clear hb hbox hg) | ((with_reducible refine gate_dst (N := 7) rfl ?_); refine Kd.R_lit (Kd.int .i64) _ 3 ?hg (N := 7) ?hd (xs := ([] : List Int)) (inner := []) (ok := fun _ => True) (okp := fun _ => True) ?hr ?hp (fun _ hk => hk) trivial (Below.refl _ _) (Nat.le_refl _) (by simp) ?_; (case hd => rfl); (case hg => rfl); (case hr => first | (go_simp; done) | (go_simp; rfl)); (case hp => exact (Reps.none _ _)); intro v103 w4 ho5 hb hg_ hnew_; clear hg_ hnew_; (first | rw [← Ny102.out] at ho5 | (simp only [Int.reduceToNat] at ho5; rw [← Ny102.out] at ho5)); have HO104 := Aside0.mk (Kd.R_lower ho5 (below_size (uB1 HB GE101.out))); replace BK101 := bb BK101 hb; replace HB := Aside0.mk (below_step (uB1 HB GE101.out) hb); clear hb ho5))
 go_loopg [5, 6] k (fun kq v5 v6 w' => ∃ (x5_1 : List Int) (x6_1 : Int), v6 = .int .i64 x6_1 ∧ Aside0 (spec_PartEdges.l0 kq l1 x5_1 x6_1 a0_0 l0_1 = some r) ∧ Aside0 (kq ≤ k) ∧ Aside0 (Kd.R (Kd.int .i64) 3 w' w.heap.size (fun _ => True) v5 x5_1) ∧ Aside0 (w'.heap[gb101]? = some (.cells #[.int .i64 a0_0, (.slice A0_1 l0_1.length c0_1)] 25 (0, 0))) ∧ Aside0 (Below w.heap.size w w'))
 case atStart => exact ⟨(y102), (0), ue, H', ⟨Nat.le_refl _⟩, ⟨ur HO104⟩, ⟨ub BK101⟩, ⟨uB1 HB GE101.out⟩⟩
 case round =>
  clear H'; try clear c1
  try clear p2
  try clear c3
  obtain ⟨x5_1, x6_1, rfl, HA, HK1, HO_5, BK101, HB⟩ := hrel
  cases gk with
  | zero => exact absurd HA.out (by simp [spec_PartEdges.l0])
  | succ k1 =>
   have H := HA.out; clear HA; simp only [spec_PartEdges.l0] at H; have HC6 := Aside0.mk H; clear H; go_upto_region 3 with (fail)
   go_cut [20] (fun v20 wc => ∃ (kq : Nat) (x20_5 : Bool), v20 = .bool x20_5 ∧ Aside0 (spec_PartEdges.j1 kq l1 x5_1 x6_1 x20_5 a0_0 l0_1 = some r) ∧ Aside0 (kq ≤ k1) ∧ Aside0 (Kd.R (Kd.int .i64) 3 wc w.heap.size (fun _ => True) u5 x5_1) ∧ Aside0 (wc.heap[gb101]? = some (.cells #[.int .i64 a0_0, (.slice A0_1 l0_1.length c0_1)] 25 (0, 0))) ∧ Aside0 (Below w.heap.size w wc))
   case first =>
    have H := HC6.out; clear HC6; by_cases c7 : x6_1 < a0_0
    ·
     rw [if_pos c7] at H; have c7b0 := dl c7; clear c7; (first | rw [c7b0] | (simp only [i64_w, i32_w]; rw [c7b0]) | skip); replace H := Option.bind_eq_some_iff.mp H; obtain ⟨t105, A80, H⟩ := H; replace H : (if t105 = true then ((spec_l10Parts.f k1 a0_0 l0_1 l1).bind fun t106 => (spec_PartEdges.j1 k1 l1 x5_1 x6_1 t106 a0_0 l0_1)) else (spec_PartEdges.j1 k1 l1 x5_1 x6_1 false a0_0 l0_1)) = some r := H; have A8 := Aside0.mk A80; clear A80; by_cases c9 : t105 = true
     ·
      subst c9; rw [if_pos rfl] at H; replace H := Option.bind_eq_some_iff.mp H; obtain ⟨t106, A100, H⟩ := H; replace H : (spec_PartEdges.j1 k1 l1 x5_1 x6_1 t106 a0_0 l0_1) = some r := H; have A10 := Aside0.mk A100; clear A100; have H' := Aside0.mk H; clear H; obtain ⟨hcz11_0, hcz11_1, hfz11_0, hfz11_1⟩ := bc2 BK101; go_wp2_with (first | (go_at_call 60; (with_reducible refine (spec_l1Ok.calls k1 a0_0 _ _ l0_1 true _ ?side1 ?side2 A8.out).mono ?_); (case side1 => exact uC HR0_1 HB); (case side2 => exact HC0_1.out); rintro e w12 ⟨rfl, hb⟩; replace HO_5 := Aside0.mk (Kd.R_below (ur HO_5) hb); replace BK101 := bb BK101 hb; replace HB := Aside0.mk (below_step (uB1 HB GE101.out) hb); (try clear hb); (try clear hb2); (try clear hk); (try clear hi); obtain ⟨hcz13_0, hcz13_1, hfz13_0, hfz13_1⟩ := bc2 BK101) | (go_at_call 70; (with_reducible refine (spec_l10Parts.calls k1 a0_0 _ _ l0_1 _ _ l1 t106 _ ?side1 ?side2 ?side3 ?side4 A10.out).mono ?_); (case side1 => exact uC HR0_1 HB); (case side2 => exact HC0_1.out); (case side3 => exact uC HR1 HB); (case side4 => exact HC1.out); rintro e w14 ⟨rfl, hb⟩; replace HO_5 := Aside0.mk (Kd.R_below (ur HO_5) hb); replace BK101 := bb BK101 hb; replace HB := Aside0.mk (below_step (uB1 HB GE101.out) hb); (try clear hb); (try clear hb2); (try clear hk); (try clear hi))); go_meet
      case rel => exact ⟨_, (t106), ue, H', ⟨by have := HK1.out; first | omega | exact Nat.le_refl _⟩, ⟨ur HO_5⟩, ⟨ub BK101⟩, ⟨uB1 HB GE101.out⟩⟩
     ·
      replace c9 := Bool.eq_false_iff.mpr c9; subst c9; rw [if_neg (show ¬ (false = true) by decide)] at H; have H' := Aside0.mk H; clear H; obtain ⟨hcz15_0, hcz15_1, hfz15_0, hfz15_1⟩ := bc2 BK101; go_wp2_with (first | (go_at_call 60; (with_reducible refine (spec_l1Ok.calls k1 a0_0 _ _ l0_1 false _ ?side1 ?side2 A8.out).mono ?_); (case side1 => exact uC HR0_1 HB); (case side2 => exact HC0_1.out); rintro e w16 ⟨rfl, hb⟩; replace HO_5 := Aside0.mk (Kd.R_below (ur HO_5) hb); replace BK101 := bb BK101 hb; replace HB := Aside0.mk (below_step (uB1 HB GE101.out) hb); (try clear hb); (try clear hb2); (try clear hk); (try clear hi))); go_meet
      case rel => exact ⟨_, (false), ue, H', ⟨by have := HK1.out; first | omega | exact Nat.le_refl _⟩, ⟨ur HO_5⟩, ⟨ub BK101⟩, ⟨uB1 HB GE101.out⟩⟩
    ·
     rw [if_neg c7] at H; have c7b0 := DL c7; clear c7; (first | rw [c7b0] | (simp only [i64_w, i32_w]; rw [c7b0]) | skip); have H' := Aside0.mk H; clear H; obtain ⟨hcz17_0, hcz17_1, hfz17_0, hfz17_1⟩ := bc2 BK101; go_wp2; go_meet
     case rel => exact ⟨_, (false), ue, H', ⟨by have := HK1.out; first | omega | exact Nat.le_refl _⟩, ⟨ur HO_5⟩, ⟨ub BK101⟩, ⟨uB1 HB GE101.out⟩⟩
   case rest =>
    clear HC6; try clear c1
    try clear p2
    try clear c3
    try clear c7
    try clear c7b0
    try clear c9
    try clear hcz11_0 hcz11_1
    try clear hcz13_0 hcz13_1
    try clear hcz15_0 hcz15_1
    try clear hcz17_0 hcz17_1
    try clear hfz11_0 hfz11_1
    try clear hfz13_0 hfz13_1
    try clear hfz15_0 hfz15_1
    try clear hfz17_0 hfz17_1
    try clear p2
    obtain ⟨kq, x20_5, rfl, HA, HJ5, HO_5, BK101, HB⟩ := hcut
    cases kq with
    | zero => exact absurd HA.out (by simp [spec_PartEdges.j1])
    | succ kj5 =>
     have H := HA.out; clear HA; simp only [spec_PartEdges.j1] at H; by_cases c18 : x20_5 = true
     ·
      subst c18; rw [if_pos rfl] at H; replace H := Option.bind_eq_some_iff.mp H; obtain ⟨t107, A190, H⟩ := H; replace H : (if t107 = true then (if x5_1.length < 17592186044416 then (spec_PartEdges.l0 kj5 l1 (x5_1 ++ [x6_1]) (wrap64 (x6_1 + 1)) a0_0 l0_1) else (none)) else (spec_PartEdges.l0 kj5 l1 x5_1 (wrap64 (x6_1 + 1)) a0_0 l0_1)) = some r := H; have A19 := Aside0.mk A190; clear A190; by_cases c20 : t107 = true
      ·
       subst c20; rw [if_pos rfl] at H; by_cases c21 : x5_1.length < 17592186044416
       ·
        rw [if_pos c21] at H; have LMc21 := Aside0.mk c21; clear c21; obtain ⟨y108, hy108⟩ : ∃ y_ : List Int, y_ = (x5_1 ++ [x6_1]) := ⟨_, rfl⟩
        replace H : (spec_PartEdges.l0 kj5 l1 y108 (wrap64 (x6_1 + 1)) a0_0 l0_1) = some r := by first | (rw [hy108]; with_reducible exact H) | (have H2_ := (Option.bind_some _ _).symm.trans H; rw [hy108]; with_reducible exact H2_) | (have H2_ := (Option.bind_some _ _).symm.trans H; with_reducible exact H2_) | with_reducible exact H | (rw [hy108]; exact H) | exact H
        have Ny108 := Aside0.mk hy108; clear hy108; have H' := Aside0.mk H; clear H; obtain ⟨hcz22_0, hcz22_1, hfz22_0, hfz22_1⟩ := bc2 BK101; go_wp2_with (first | ((with_reducible refine gate_callee (f := 75) rfl ?_); refine goesL_ (some 26) rfl rfl Try.func75 (by kernel_rfl) rfl #[.agg #[.int .i64 a0_0, .slice A0_1 l0_1.length c0_1], .slice A1 l1.length c1, .int .i64 x6_1] rfl ul ?_; (with_reducible refine (spec_l10Edge.calls kj5 a0_0 _ _ l0_1 _ _ l1 x6_1 true _ ?side1 ?side2 ?side3 ?side4 A19.out).mono ?_); (case side1 => exact uC HR0_1 HB); (case side2 => exact HC0_1.out); (case side3 => exact uC HR1 HB); (case side4 => exact HC1.out); rintro e w23 ⟨rfl, hb⟩; refine ⟨_, rfl, ?_⟩; replace HO_5 := Aside0.mk (Kd.R_below (ur HO_5) hb); replace BK101 := bb BK101 hb; replace HB := Aside0.mk (below_step (uB1 HB GE101.out) hb); (try clear hb); (try clear hb2); (try clear hk); (try clear hi)) | ((with_reducible refine gate_builtin (b := .append) (xs := #[.tmp 27, .tmp 29]) rfl ?_); at_builtin; refine Kd.R_append (Kd.int .i64) (w0 := w) w.heap.size rfl (.tmp 27) (.tmp 29) 26 3 (.int .i64 0) 8 rfl Try.underlying26 info3 rfl (by decide) (by omega) u5 x5_1 x6_1 [.int .i64 x6_1] (fun _ => True) (fun _ => False) rfl rfl ?aP (fun _ hk => hk.elim) ?aF ?aO ?aB ?aS ?aL ?_; (case aP => exact rfl); (case aB => exact (uB1 HB GE101.out)); (case aF => exact (fun _ _ => trivial)); (case aO => exact (ur HO_5)); (case aS => exact (below_size (uB1 HB GE101.out))); (case aL => have := LMc21.out; omega); intro v109 w24 ho hb hg hat; rw [← Ny108.out] at ho; replace BK101 := bg BK101 hg (Kd.R_ne HO_5.out BK101.out (by decide)); replace HB := Aside0.mk (hb); have HO110 := Aside0.mk (ho); clear HO_5; clear ho hb hg hat)); go_roundg kj5
        case measure => have := HK1.out; have := HJ5.out; omega
        case rel => exact ⟨(y108), (wrap64 (x6_1 + 1)), ue, H', ⟨by have := HK1.out; have := HJ5.out; omega⟩, ⟨ur HO110⟩, ⟨ub BK101⟩, ⟨uB1 HB GE101.out⟩⟩
       ·
        rw [if_neg c21] at H; exact absurd H (by simp)
      ·
       replace c20 := Bool.eq_false_iff.mpr c20; subst c20; rw [if_neg (show ¬ (false = true) by decide)] at H; have H' := Aside0.mk H; clear H; obtain ⟨hcz25_0, hcz25_1, hfz25_0, hfz25_1⟩ := bc2 BK101; go_wp2_with (first | ((with_reducible refine gate_callee (f := 75) rfl ?_); refine goesL_ (some 26) rfl rfl Try.func75 (by kernel_rfl) rfl #[.agg #[.int .i64 a0_0, .slice A0_1 l0_1.length c0_1], .slice A1 l1.length c1, .int .i64 x6_1] rfl ul ?_; (with_reducible refine (spec_l10Edge.calls kj5 a0_0 _ _ l0_1 _ _ l1 x6_1 false _ ?side1 ?side2 ?side3 ?side4 A19.out).mono ?_); (case side1 => exact uC HR0_1 HB); (case side2 => exact HC0_1.out); (case side3 => exact uC HR1 HB); (case side4 => exact HC1.out); rintro e w26 ⟨rfl, hb⟩; refine ⟨_, rfl, ?_⟩; replace HO_5 := Aside0.mk (Kd.R_below (ur HO_5) hb); replace BK101 := bb BK101 hb; replace HB := Aside0.mk (below_step (uB1 HB GE101.out) hb); (try clear hb); (try clear hb2); (try clear hk); (try clear hi))); go_roundg kj5
       case measure => have := HK1.out; have := HJ5.out; omega
       case rel => exact ⟨(x5_1), (wrap64 (x6_1 + 1)), ue, H', ⟨by have := HK1.out; have := HJ5.out; omega⟩, ⟨ur HO_5⟩, ⟨ub BK101⟩, ⟨uB1 HB GE101.out⟩⟩
     ·
      replace c18 := Bool.eq_false_iff.mpr c18; subst c18; rw [if_neg (show ¬ (false = true) by decide)] at H; obtain rfl := Option.some.inj H; go_wp2; go_ret; exact ⟨_, by first | rfl | (simp [errW_none, errW_some] <;> rfl) | (simp [*, errW_none, errW_some] <;> rfl), by (with_reducible repeat (first | apply Kd.R_alloc | apply Kd.R_drewN | apply Kd.R_drew)); exact HO_5.out, uB1 HB GE101.out⟩

end Go.Proofs.Ytblpdfgplifccaa.P
