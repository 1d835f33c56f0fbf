-- printed for this claim by a program
import Derived.Test.YtblpdfgplifccaaPx0
import Derived.Test.YtblpdfgplifccaaHUp
import Derived.Test.YtblpdfgplifccaaGBase
namespace Go.Proofs.Ytblpdfgplifccaa.P
open Go.RowKit Go.Proofs.YtblpdfgplifccaaV.PrintWords Go.Proofs.YtblpdfgplifccaaV.PrintLast
set_option linter.unusedVariables false
set_option linter.unusedSimpArgs false

/-! ### bits_Mul64: function 126 -/
def bits_Mul64.f (a0 : Int) (a1 : Int) : Option (Int × Int) := some (IntKind.u64.wrap ((IntKind.u64.wrap ((IntKind.u64.wrap ((a0 / 4294967296) * (a1 / 4294967296))) + ((IntKind.u64.wrap ((IntKind.u64.wrap ((a0 / 4294967296) * (Go.bits .and .u64 a1 4294967295))) + ((IntKind.u64.wrap ((Go.bits .and .u64 a0 4294967295) * (Go.bits .and .u64 a1 4294967295))) / 4294967296))) / 4294967296))) + ((IntKind.u64.wrap ((Go.bits .and .u64 (IntKind.u64.wrap ((IntKind.u64.wrap ((a0 / 4294967296) * (Go.bits .and .u64 a1 4294967295))) + ((IntKind.u64.wrap ((Go.bits .and .u64 a0 4294967295) * (Go.bits .and .u64 a1 4294967295))) / 4294967296))) 4294967295) + (IntKind.u64.wrap ((Go.bits .and .u64 a0 4294967295) * (a1 / 4294967296))))) / 4294967296)), IntKind.u64.wrap (a0 * a1))
set_option maxHeartbeats 8000000 in
set_option maxRecDepth 100000 in
theorem bits_Mul64.calls (a0 : Int) (a1 : Int) (r1 : Int) (r2 : Int) (w : World) (h : bits_Mul64.f a0 a1 = some (r1, r2)) :
  Calls Try.prog 126 #[.int .u64 a0, .int .u64 a1] w fun e w' => e = .returned (.tuple #[.int .u64 r1, .int .u64 r2]) ∧ Drawn0 w w' := by
 have H : (some (IntKind.u64.wrap ((IntKind.u64.wrap ((IntKind.u64.wrap ((a0 / 4294967296) * (a1 / 4294967296))) + ((IntKind.u64.wrap ((IntKind.u64.wrap ((a0 / 4294967296) * (Go.bits .and .u64 a1 4294967295))) + ((IntKind.u64.wrap ((Go.bits .and .u64 a0 4294967295) * (Go.bits .and .u64 a1 4294967295))) / 4294967296))) / 4294967296))) + ((IntKind.u64.wrap ((Go.bits .and .u64 (IntKind.u64.wrap ((IntKind.u64.wrap ((a0 / 4294967296) * (Go.bits .and .u64 a1 4294967295))) + ((IntKind.u64.wrap ((Go.bits .and .u64 a0 4294967295) * (Go.bits .and .u64 a1 4294967295))) / 4294967296))) 4294967295) + (IntKind.u64.wrap ((Go.bits .and .u64 a0 4294967295) * (a1 / 4294967296))))) / 4294967296)), IntKind.u64.wrap (a0 * a1))) = some (r1, r2) := h
 clear h
 simp only [Option.some.injEq, Prod.mk.injEq] at H
 obtain ⟨rfl, rfl⟩ := H
 go_enter Try.func126, Try.ntmps126
 go_wp2
 go_ret2
 exact ⟨by first | rfl | (simp; done) | (simp [*]; done), by repeat (exact Drawn0.refl _)⟩

end Go.Proofs.Ytblpdfgplifccaa.P
namespace Go.Proofs.Ytblpdfgplifccaa.P
open Go.RowKit Go.Proofs.YtblpdfgplifccaaV.PrintWords Go.Proofs.YtblpdfgplifccaaV.PrintLast
set_option linter.unusedVariables false
set_option linter.unusedSimpArgs false

/-! ### bits_Mul: function 124 -/
def bits_Mul.f (a0 : Int) (a1 : Int) : Option (Int × Int) := (bits_Mul64.f a0 a1).bind fun bt101 => (some (bt101.1, bt101.2))
set_option maxHeartbeats 8000000 in
set_option maxRecDepth 100000 in
theorem bits_Mul.calls (a0 : Int) (a1 : Int) (r1 : Int) (r2 : Int) (w : World) (h : bits_Mul.f a0 a1 = some (r1, r2)) :
  Calls Try.prog 124 #[.int .u64 a0, .int .u64 a1] w fun e w' => e = .returned (.tuple #[.int .u64 r1, .int .u64 r2]) ∧ Drawn0 w w' := by
 have H : ((bits_Mul64.f a0 a1).bind fun bt101 => (some (bt101.1, bt101.2))) = some (r1, r2) := h
 clear h
 replace H := Option.bind_eq_some_iff.mp H
 obtain ⟨⟨t101, t102⟩, A30, H⟩ := H
 replace H : (some (t101, t102)) = some (r1, r2) := H
 have A3 := Aside0.mk A30
 clear A30
 simp only [Option.some.injEq, Prod.mk.injEq] at H
 obtain ⟨rfl, rfl⟩ := H
 go_enter Try.func124, Try.ntmps124
 go_wp2_with (((with_reducible refine gate_callee (f := 126) rfl ?_); refine goesL_ (some 25) rfl rfl Try.func126 (by kernel_rfl) rfl #[.int .u64 a0, .int .u64 a1] rfl ul ?_; (with_reducible refine (bits_Mul64.calls a0 a1 t101 t102 _ A3.out).mono ?_); rintro e w' ⟨rfl, ⟨nd, rfl⟩⟩; refine ⟨_, rfl, ?_⟩))
 go_ret2
 exact ⟨by first | rfl | (simp; done) | (simp [*]; done), by repeat (first | exact Drawn0.refl _ | apply Drawn0.step)⟩

end Go.Proofs.Ytblpdfgplifccaa.P
namespace Go.Proofs.Ytblpdfgplifccaa.P
open Go.RowKit Go.Proofs.YtblpdfgplifccaaV.PrintWords Go.Proofs.YtblpdfgplifccaaV.PrintLast
set_option linter.unusedVariables false
set_option linter.unusedSimpArgs false

/-! ### impl_measure_less: function 121 -/
def impl_measure_less.f (a0_0 : Int) (a0_1 : Int) (a1_0 : Int) (a1_1 : Int) : Option (Bool) := if a0_0 < a1_0 then (some true) else (if a0_0 = a1_0 then (some (decide (a0_1 < a1_1))) else (some false))
set_option maxHeartbeats 8000000 in
set_option maxRecDepth 100000 in
theorem impl_measure_less.calls (a0_0 : Int) (a0_1 : Int) (a1_0 : Int) (a1_1 : Int) (r : Bool) (w : World) (h : impl_measure_less.f a0_0 a0_1 a1_0 a1_1 = some r) :
  Calls Try.prog 121 #[.agg #[.int .i64 a0_0, .int .i64 a0_1], .agg #[.int .i64 a1_0, .int .i64 a1_1]] w fun e w' => e = .returned (.bool r) ∧ Below w.heap.size w w' := by
 have hu108 := Try.underlying108
 have HB := Aside0.mk (Below.refl w.heap.size w)
 have H : (if a0_0 < a1_0 then (some true) else (if a0_0 = a1_0 then (some (decide (a0_1 < a1_1))) else (some false))) = some r := h
 clear h
 by_cases c3 : a0_0 < a1_0
 ·
  rw [if_pos c3] at H; have jq := dl c3; clear c3; obtain rfl := Option.some.inj H; go_enter Try.func121, Try.ntmps121; go_wp2_with (first | ((with_reducible refine gate_dst (N := 2) rfl ?_); refine be (cs := #[.int .i64 a0_0, .int .i64 a0_1]) (t := 108) ?_; intro j6 hg w4 hbox hb; have j0 := Aside0.mk (hbox); have j7 := gz w hg (uB0 HB); have j1 := gz w hg (uB0 HB); replace HB := Aside0.mk (below_step (uB0 HB) hb); clear hb hbox hg) | ((with_reducible refine gate_dst (N := 3) rfl ?_); refine be (cs := #[.int .i64 a1_0, .int .i64 a1_1]) (t := 108) ?_; intro j8 hg w5 hbox hb; have j4 := Aside0.mk (hbox); have j9 := gz w hg (uB1 HB j1.out); have j5 := gz w hg (uB1 HB j1.out); replace HB := Aside0.mk (below_step (uB1 HB j1.out) hb); have j2 := gl hg j0; have j3 := gr hg j0; replace j0 := bb j0 hb; clear hb hbox hg; have jF := j2.out; have jG := j3.out; obtain ⟨jr, js, jt, ju⟩ := bc2 j0; obtain ⟨jv, jw, jx, jy⟩ := bc2 j4)); go_ret; exact ⟨ux, uB2 HB j1.out j5.out⟩
 ·
  rw [if_neg c3] at H; have jq := DL c3; clear c3; by_cases c9 : a0_0 = a1_0
  ·
   rw [if_pos c9] at H; obtain ⟨jz, jA⟩ := dq c9; clear c9; obtain rfl := Option.some.inj H; go_enter Try.func121, Try.ntmps121; go_wp2_with (first | ((with_reducible refine gate_dst (N := 2) rfl ?_); refine be (cs := #[.int .i64 a0_0, .int .i64 a0_1]) (t := 108) ?_; intro j6 hg w10 hbox hb; have j0 := Aside0.mk (hbox); have j7 := gz w hg (uB0 HB); have j1 := gz w hg (uB0 HB); replace HB := Aside0.mk (below_step (uB0 HB) hb); clear hb hbox hg) | ((with_reducible refine gate_dst (N := 3) rfl ?_); refine be (cs := #[.int .i64 a1_0, .int .i64 a1_1]) (t := 108) ?_; intro j8 hg w11 hbox hb; have j4 := Aside0.mk (hbox); have j9 := gz w hg (uB1 HB j1.out); have j5 := gz w hg (uB1 HB j1.out); replace HB := Aside0.mk (below_step (uB1 HB j1.out) hb); have j2 := gl hg j0; have j3 := gr hg j0; replace j0 := bb j0 hb; clear hb hbox hg; have jB := j2.out; have jC := j3.out; obtain ⟨ja, jb, jc, jd⟩ := bc2 j0; obtain ⟨je, jf, jg, jh⟩ := bc2 j4)); go_ret; exact ⟨ux, uB2 HB j1.out j5.out⟩
  ·
   rw [if_neg c9] at H; obtain ⟨jz, jA⟩ := dQ c9; obtain rfl := Option.some.inj H; go_enter Try.func121, Try.ntmps121; go_wp2_with (first | ((with_reducible refine gate_dst (N := 2) rfl ?_); refine be (cs := #[.int .i64 a0_0, .int .i64 a0_1]) (t := 108) ?_; intro j6 hg w15 hbox hb; have j0 := Aside0.mk (hbox); have j7 := gz w hg (uB0 HB); have j1 := gz w hg (uB0 HB); replace HB := Aside0.mk (below_step (uB0 HB) hb); clear hb hbox hg) | ((with_reducible refine gate_dst (N := 3) rfl ?_); refine be (cs := #[.int .i64 a1_0, .int .i64 a1_1]) (t := 108) ?_; intro j8 hg w16 hbox hb; have j4 := Aside0.mk (hbox); have j9 := gz w hg (uB1 HB j1.out); have j5 := gz w hg (uB1 HB j1.out); replace HB := Aside0.mk (below_step (uB1 HB j1.out) hb); have j2 := gl hg j0; have j3 := gr hg j0; replace j0 := bb j0 hb; clear hb hbox hg; have jD := j2.out; have jE := j3.out; obtain ⟨ji, jj, jk, jl⟩ := bc2 j0; obtain ⟨jm, jn, jo, jp⟩ := bc2 j4)); go_ret; exact ⟨ux, uB2 HB j1.out j5.out⟩

end Go.Proofs.Ytblpdfgplifccaa.P
namespace Go.Proofs.Ytblpdfgplifccaa.P
open Go.RowKit Go.Proofs.YtblpdfgplifccaaV.PrintWords Go.Proofs.YtblpdfgplifccaaV.PrintLast
set_option linter.unusedVariables false
set_option linter.unusedSimpArgs false

/-! ### impl_costs: function 112 -/
def impl_costs.l0 : Nat → List Int → List (S108) → Int → Int → Option (List Int)
 | 0, _, _, _, _ => none
 | k + 1, x3, x9, x10, x11 => if x11 < x10 then (if 0 ≤ x11 then (if x11 < (x9.length : Int) then (if x3.length < 17592186044416 then (impl_costs.l0 k (x3 ++ [(rd_T108 x9 x11).f0]) x9 x10 (wrap64 (x11 + 1))) else (none)) else (none)) else (none)) else (some x3)
def impl_costs.f (k : Nat) (l0 : List (S108)) : Option (List Int) := if 0 ≤ (l0.length : Int) then (if ((l0.length : Int) : Int).toNat ≤ 35184372088832 then (impl_costs.l0 k (([] : List Int)) l0 (l0.length : Int) 0) else (none)) else (none)
set_option maxHeartbeats 8000000 in
set_option maxRecDepth 100000 in
theorem impl_costs.calls (k : Nat) (A0 : Option Addr) (c0 : Nat) (l0 : List (S108)) (r : List Int) (w : World) (hr0 : Kd.C k108 w A0 l0.length l0) (hc0 : l0.length ≤ c0) (h : impl_costs.f k l0 = some r) :
  Calls Try.prog 112 #[.slice A0 l0.length c0] w fun e w' => ∃ v0_ : Value, e = .returned (v0_) ∧ Kd.R (Kd.int .i64) 3 w' w.heap.size (fun _ => True) v0_ r ∧ Below w.heap.size w w' := by
 have hu108 := Try.underlying108
 have HR0 := Aside0.mk hr0
 have HC0 := Aside0.mk hc0
 clear hr0 hc0
 have HB := Aside0.mk (Below.refl w.heap.size w)
 have H : (if 0 ≤ (l0.length : Int) then (if ((l0.length : Int) : Int).toNat ≤ 35184372088832 then (impl_costs.l0 k (([] : List Int)) l0 (l0.length : Int) 0) else (none)) else (none)) = some r := h
 clear h
 by_cases c2 : 0 ≤ (l0.length : Int)
 ·
  rw [if_pos c2] at H; have jm := eq_true c2; have jn := de c2; clear c2; by_cases c3 : ((l0.length : Int) : Int).toNat ≤ 35184372088832
  ·
   rw [if_pos c3] at H; have jo := eq_true c3; have jp := de c3; clear c3; obtain ⟨jb, j1⟩ : ∃ y_ : List Int, y_ = (([] : List Int)) := ⟨_, rfl⟩
   replace H : (impl_costs.l0 k jb l0 (l0.length : Int) 0) = some r := by first | (rw [j1]; with_reducible exact H) | (have H2_ := (Option.bind_some _ _).symm.trans H; rw [j1]; with_reducible exact H2_) | (have H2_ := (Option.bind_some _ _).symm.trans H; with_reducible exact H2_) | with_reducible exact H | (rw [j1]; exact H) | exact H
   have jc := Aside0.mk j1; clear j1; have H' := Aside0.mk H; clear H; go_enter Try.func112, Try.ntmps112; go_wp2_with (((with_reducible refine gate_dst (N := 8) rfl ?_); refine Kd.R_room (Kd.int .i64) _ 3 rfl (N := 8) rfl 26 _ _ rfl (l0.length : Int) rfl rfl Try.underlying26 (.int .i64 0) 8 info3 rfl (by omega) (ok := fun _ => True) trivial (ua) (Nat.le_trans (Nat.mul_le_mul_right _ (ua : (l0.length : Int).toNat ≤ 35184372088832)) (by omega)) (Below.refl _ _) (Nat.le_refl _) ?_; intro v102 w4 ho5 hb hg_ hnew_; clear hg_ hnew_; (rw [← jc.out] at ho5); have jd := Aside0.mk (Kd.R_lower ho5 (below_size (uB0 HB))); replace HB := Aside0.mk (below_step (uB0 HB) hb); clear hb ho5)); go_loopg [3, 11] k (fun kq v3 v11 w' => ∃ (j6 : List Int) (j0 : Int), v11 = .int .i64 j0 ∧ Aside0 (impl_costs.l0 kq j6 l0 (l0.length : Int) j0 = some r) ∧ Aside0 (kq ≤ k) ∧ Aside0 (Kd.R (Kd.int .i64) 3 w' w.heap.size (fun _ => True) v3 j6) ∧ Aside0 (Below w.heap.size w w'))
   case atStart => exact ⟨(jb), (0), ue, H', ⟨Nat.le_refl _⟩, ⟨ur jd⟩, ⟨uB0 HB⟩⟩
   case round =>
    clear H'
    clear jm jn jo jp
    obtain ⟨j6, j0, rfl, HA, HK1, j7, HB⟩ := hrel
    cases gk with
    | zero => exact absurd HA.out (by simp [impl_costs.l0])
    | succ k1 =>
     have H := HA.out; clear HA; simp only [impl_costs.l0] at H; by_cases c6 : j0 < (l0.length : Int)
     ·
      rw [if_pos c6] at H; have jq := dl c6; clear c6; by_cases c7 : 0 ≤ j0
      ·
       rw [if_pos c7] at H; have jv := de c7; clear c7; by_cases c8 : j0 < (l0.length : Int)
       ·
        rw [if_pos c8] at H; have jw := dl c8; clear c8; by_cases c9 : j6.length < 17592186044416
        ·
         rw [if_pos c9] at H; have jr := Aside0.mk c9; clear c9; obtain ⟨je, j2⟩ : ∃ y_ : List Int, y_ = (j6 ++ [(rd_T108 l0 j0).f0]) := ⟨_, rfl⟩
         replace H : (impl_costs.l0 k1 je l0 (l0.length : Int) (wrap64 (j0 + 1))) = some r := by first | (rw [j2]; with_reducible exact H) | (have H2_ := (Option.bind_some _ _).symm.trans H; rw [j2]; with_reducible exact H2_) | (have H2_ := (Option.bind_some _ _).symm.trans H; with_reducible exact H2_) | with_reducible exact H | (rw [j2]; exact H) | exact H
         have jf := Aside0.mk j2; clear j2; have H' := Aside0.mk H; clear H; have j9 : 0 ≤ (j0 : Int) := ua; have ja : j0 < (l0.length : Int) := ua; obtain ⟨jt, js, j4, j5⟩ := at_T108 HR0.out j0 j9 ja
         cases js
         replace j4 := uc HB j4; replace j5 := uc HB j5; replace j9 := eq_true j9; replace ja := eq_true ja; go_wp2_with (first | ((with_reducible refine gate_dst (N := 5) rfl ?_); refine be (cs := #[.int .i64 0, .int .i64 0]) (t := 108) ?_; intro jg hg w10 hbox hb; replace j7 := Aside0.mk (Kd.R_below (ur j7) hb); have j3 := Aside0.mk (hbox); have ju := gz w hg (uB0 HB); have j8 := gz w hg (uB0 HB); replace HB := Aside0.mk (below_step (uB0 HB) hb); clear hb hbox hg; obtain ⟨ji, jj, jk, jl⟩ := bc2 j3) | ((with_reducible refine gate_builtin (b := .append) (xs := #[.tmp 15, .tmp 18]) rfl ?_); at_builtin; refine Kd.R_append (Kd.int .i64) (w0 := w) w.heap.size rfl (.tmp 15) (.tmp 18) 26 3 (.int .i64 0) 8 rfl Try.underlying26 info3 rfl (by decide) (by omega) u3 j6 ((rd_T108 l0 j0).f0) [.int .i64 ((rd_T108 l0 j0).f0)] (fun _ => True) (fun _ => False) rfl (by first | (go_simp; done) | (go_simp; rfl)) ?aP (fun _ hk => hk.elim) ?aF ?aO ?aB ?aS ?aL ?_; (case aP => exact rfl); (case aB => exact (uB1 HB j8.out)); (case aF => exact (fun _ _ => trivial)); (case aO => exact (by (with_reducible repeat (first | apply Kd.R_alloc | apply Kd.R_drewN | apply Kd.R_drew)); exact Kd.R_mono (rf2 j7 j3) (fun _ hk => trivial))); (case aS => exact (below_size (uB1 HB j8.out))); (case aL => have := jr.out; omega); intro v107 w12 ho hb hg hat; rw [← jf.out] at ho; replace j3 := Aside0.mk (blk_grown (g := jg) (o := .cells #[.int .i64 ((rd_T108 l0 j0).f0), .int .i64 ((rd_T108 l0 j0).f1)] 108 (0, 0)) (by (with_reducible repeat first | apply zbn | apply zbd | apply zba); refine pu2 (.int .i64 0) (.int .i64 0) ?_; exact ub j3) hg (Kd.R_ne j7.out j3.out (by decide))); replace HB := Aside0.mk (hb); have jh := Aside0.mk (ho); clear j7; clear ho hb hg hat)); go_roundg k1
         case measure => have := HK1.out; omega
         case rel => exact ⟨(je), (wrap64 (j0 + 1)), ue, H', ⟨by have := HK1.out; omega⟩, ⟨ur jh⟩, ⟨uB1 HB j8.out⟩⟩
        ·
         rw [if_neg c9] at H; exact absurd H (by simp)
       ·
        rw [if_neg c8] at H; exact absurd H (by simp)
      ·
       rw [if_neg c7] at H; exact absurd H (by simp)
     ·
      rw [if_neg c6] at H; have jq := DL c6; clear c6; obtain rfl := Option.some.inj H; go_wp2; go_ret; exact ⟨_, by first | rfl | (simp [errW_none, errW_some] <;> rfl) | (simp [*, errW_none, errW_some] <;> rfl), by (with_reducible repeat (first | apply Kd.R_alloc | apply Kd.R_drewN | apply Kd.R_drew)); exact j7.out, uB0 HB⟩
  ·
   rw [if_neg c3] at H; exact absurd H (by simp)
 ·
  rw [if_neg c2] at H; exact absurd H (by simp)

end Go.Proofs.Ytblpdfgplifccaa.P
namespace Go.Proofs.Ytblpdfgplifccaa.P
open Go.RowKit Go.Proofs.YtblpdfgplifccaaV.PrintWords Go.Proofs.YtblpdfgplifccaaV.PrintLast
set_option linter.unusedVariables false
set_option linter.unusedSimpArgs false

/-! ### spec_l11Nodes: function 86 -/
def spec_l11Nodes.l0 : Nat → List Int → Int → Int → List (S33) → Option (Bool)
 | 0, _, _, _, _ => none
 | k + 1, x1, x5, x102000, x102001 => if x5 < (x1.length : Int) then (if 0 ≤ x5 then ((spec_l1In.f (rd x1 x5) 0 (wrap64 (x102000 - 1))).bind fun t103 => (if t103 = true then (spec_l11Nodes.l0 k x1 (wrap64 (x5 + 1)) x102000 x102001) else (some false))) else (none)) else (some (decide ((x1.length : Int) ≤ 8)))
def spec_l11Nodes.f (k : Nat) (a0_0 : Int) (l0_1 : List (S33)) (l1 : List Int) : Option (Bool) := spec_l11Nodes.l0 k l1 0 a0_0 l0_1
set_option maxHeartbeats 8000000 in
set_option maxRecDepth 100000 in
theorem spec_l11Nodes.calls (k : Nat) (a0_0 : Int) (A0_1 : Option Addr) (c0_1 : Nat) (l0_1 : List (S33)) (A1 : Option Addr) (c1 : Nat) (l1 : List Int) (r : Bool) (w : World) (hr0_1 : Kd.C k33 w A0_1 l0_1.length l0_1) (hc0_1 : l0_1.length ≤ c0_1) (hr1 : Kd.C (Kd.int .i64) w A1 l1.length l1) (hc1 : l1.length ≤ c1) (h : spec_l11Nodes.f k a0_0 l0_1 l1 = some r) :
  Calls Try.prog 86 #[.agg #[.int .i64 a0_0, .slice A0_1 l0_1.length c0_1], .slice A1 l1.length c1] w fun e w' => e = .returned (.bool r) ∧ Below w.heap.size w w' := by
 have hu25 := Try.underlying25
 have jj := Aside0.mk hr0_1
 have jk := Aside0.mk hc0_1
 clear hr0_1 hc0_1
 have HR1 := Aside0.mk hr1
 have HC1 := Aside0.mk hc1
 clear hr1 hc1
 have HB := Aside0.mk (Below.refl w.heap.size w)
 have H : (spec_l11Nodes.l0 k l1 0 a0_0 l0_1) = some r := h
 clear h
 have H' := Aside0.mk H
 clear H
 go_enter Try.func86, Try.ntmps86
 go_wp2_with (((with_reducible refine gate_dst (N := 2) rfl ?_); refine be (cs := #[.int .i64 a0_0, .slice A0_1 l0_1.length c0_1]) (t := 25) ?_; intro j7 hg w3 hbox hb; have j2 := Aside0.mk (hbox); have jl := gz w hg (uB0 HB); have j5 := gz w hg (uB0 HB); replace HB := Aside0.mk (below_step (uB0 HB) hb); clear hb hbox hg))
 go_loopg [5] k (fun kq v5 w' => ∃ (j0 : Int), v5 = .int .i64 j0 ∧ Aside0 (spec_l11Nodes.l0 kq l1 j0 a0_0 l0_1 = some r) ∧ Aside0 (kq ≤ k) ∧ Aside0 (w'.heap[j7]? = some (.cells #[.int .i64 a0_0, (.slice A0_1 l0_1.length c0_1)] 25 (0, 0))) ∧ Aside0 (Below w.heap.size w w'))
 case atStart => exact ⟨(0), ue, H', ⟨Nat.le_refl _⟩, ⟨ub j2⟩, ⟨uB1 HB j5.out⟩⟩
 case round =>
  clear H'
  obtain ⟨j0, rfl, HA, HK1, j2, HB⟩ := hrel
  cases gk with
  | zero => exact absurd HA.out (by simp [spec_l11Nodes.l0])
  | succ k1 =>
   have H := HA.out; clear HA; simp only [spec_l11Nodes.l0] at H; by_cases c4 : j0 < (l1.length : Int)
   ·
    rw [if_pos c4] at H; have ja := dl c4; clear c4; by_cases c5 : 0 ≤ j0
    ·
     rw [if_pos c5] at H; have jm := de c5; clear c5; replace H := Option.bind_eq_some_iff.mp H; obtain ⟨j8, A60, H⟩ := H; replace H : (if j8 = true then (spec_l11Nodes.l0 k1 l1 (wrap64 (j0 + 1)) a0_0 l0_1) else (some false)) = some r := H; have A6 := Aside0.mk A60; clear A60; by_cases c7 : j8 = true
     ·
      subst c7; rw [if_pos rfl] at H; have H' := Aside0.mk H; clear H; have j3 : 0 ≤ (j0 : Int) := ua; have j4 : j0 < (l1.length : Int) := ua; obtain ⟨j9, j6, j1⟩ := Kd.at_int HR1.out j0 j3 j4
      cases j6
      replace j1 := uc HB j1; replace j3 := eq_true j3; replace j4 := eq_true j4; obtain ⟨jb, jc, jd, je⟩ := bc2 j2; go_wp2_with (fail)
      repeat (go_quiet ((go_at_call 83; (with_reducible refine (spec_l1In.calls (rd l1 j0) 0 (wrap64 (a0_0 - 1)) true _ A6.out).mono ?_); rintro e w' ⟨rfl, ⟨nd, rfl⟩⟩; (try first | exact ⟨rfl, _, World.drewN_drewN _ _ _⟩ | exact ⟨rfl, _, Eq.trans (World.drewN_drewN _ _ _) (congrArg (World.drewN _) (Nat.add_assoc _ _ _))⟩))); try go_wp2_with (fail))
      go_roundg k1
      case measure => have := HK1.out; omega
      case rel => exact ⟨(wrap64 (j0 + 1)), ue, H', ⟨by have := HK1.out; omega⟩, ⟨ub j2⟩, ⟨uB1 HB j5.out⟩⟩
     ·
      replace c7 := Bool.eq_false_iff.mpr c7; subst c7; rw [if_neg (show ¬ (false = true) by decide)] at H; obtain rfl := Option.some.inj H; have j3 : 0 ≤ (j0 : Int) := ua; have j4 : j0 < (l1.length : Int) := ua; obtain ⟨j9, j6, j1⟩ := Kd.at_int HR1.out j0 j3 j4
      cases j6
      replace j1 := uc HB j1; replace j3 := eq_true j3; replace j4 := eq_true j4; obtain ⟨jf, jg, jh, ji⟩ := bc2 j2; go_wp2_with (fail)
      repeat (go_quiet ((go_at_call 83; (with_reducible refine (spec_l1In.calls (rd l1 j0) 0 (wrap64 (a0_0 - 1)) false _ A6.out).mono ?_); rintro e w' ⟨rfl, ⟨nd, rfl⟩⟩; (try first | exact ⟨rfl, _, World.drewN_drewN _ _ _⟩ | exact ⟨rfl, _, Eq.trans (World.drewN_drewN _ _ _) (congrArg (World.drewN _) (Nat.add_assoc _ _ _))⟩))); try go_wp2_with (fail))
      go_ret; exact ⟨ux, uB1 HB j5.out⟩
    ·
     rw [if_neg c5] at H; exact absurd H (by simp)
   ·
    rw [if_neg c4] at H; have ja := DL c4; clear c4; obtain rfl := Option.some.inj H; go_wp2
    go_ret; exact ⟨ux, uB1 HB j5.out⟩

end Go.Proofs.Ytblpdfgplifccaa.P
namespace Go.Proofs.Ytblpdfgplifccaa.P
open Go.RowKit Go.Proofs.YtblpdfgplifccaaV.PrintWords Go.Proofs.YtblpdfgplifccaaV.PrintLast
set_option linter.unusedVariables false
set_option linter.unusedSimpArgs false

/-! ### spec_l1Back: function 118 -/
def spec_l1Back.l0 : Nat → Int → Int → List (S33) → Int → List (S33) → Option (Int × (List (S33)))
 | 0, _, _, _, _, _ => none
 | k + 1, x4, x102000, x102001, x104000, x104001 => if x4 < (x102001.length : Int) then (if 0 ≤ x4 then (if x104001.length < 3518437208883 then (spec_l1Back.l0 k (wrap64 (x4 + 1)) x102000 x102001 x104000 (x104001 ++ [(⟨(rd_T33 x102001 x4).f1, (rd_T33 x102001 x4).f0, (rd_T33 x102001 x4).f2, (rd_T33 x102001 x4).f3, (rd_T33 x102001 x4).f4⟩ : S33)])) else (none)) else (none)) else (some (x104000, x104001))
def spec_l1Back.f (k : Nat) (a0_0 : Int) (l0_1 : List (S33)) : Option (Int × (List (S33))) := spec_l1Back.l0 k 0 a0_0 l0_1 a0_0 ([] : List (S33))
set_option maxHeartbeats 8000000 in
set_option maxRecDepth 100000 in
theorem spec_l1Back.calls (k : Nat) (a0_0 : Int) (A0_1 : Option Addr) (c0_1 : Nat) (l0_1 : List (S33)) (r1 : Int) (r2 : List (S33)) (w : World) (hr0_1 : Kd.C k33 w A0_1 l0_1.length l0_1) (hc0_1 : l0_1.length ≤ c0_1) (h : spec_l1Back.f k a0_0 l0_1 = some (r1, r2)) :
  Calls Try.prog 118 #[.agg #[.int .i64 a0_0, .slice A0_1 l0_1.length c0_1]] w fun e w' => ∃ v1_ : Value, e = .returned (.agg #[.int .i64 r1, v1_]) ∧ Kd.R k33 33 w' w.heap.size (fun _ => True) v1_ r2 ∧ Below w.heap.size w w' := by
 have hu25 := Try.underlying25
 have hu33 := Try.underlying33
 have jJ := Aside0.mk hr0_1
 have j0t := Aside0.mk hc0_1
 clear hr0_1 hc0_1
 have HB := Aside0.mk (Below.refl w.heap.size w)
 have H : (spec_l1Back.l0 k 0 a0_0 l0_1 a0_0 ([] : List (S33))) = some (r1, r2) := h
 clear h
 have H' := Aside0.mk H
 clear H
 go_enter Try.func118, Try.ntmps118
 go_wp2_with (first | ((with_reducible refine gate_dst (N := 1) rfl ?_); refine be (cs := #[.int .i64 a0_0, .slice A0_1 l0_1.length c0_1]) (t := 25) ?_; intro jx hg w2 hbox hb; have j2 := Aside0.mk (hbox); have j0u := gz w hg (uB0 HB); have j6 := gz w hg (uB0 HB); replace HB := Aside0.mk (below_step (uB0 HB) hb); clear hb hbox hg) | ((with_reducible refine gate_dst (N := 2) rfl ?_); refine be (cs := #[.int .i64 0, .slice none 0 0]) (t := 25) ?_; intro jt hg w3 hbox hb; have j4 := Aside0.mk (hbox); have j0v := gz w hg (uB1 HB j6.out); have j9 := gz w hg (uB1 HB j6.out); replace HB := Aside0.mk (below_step (uB1 HB j6.out) hb); have jb := gl hg j2; have jc := gr hg j2; replace j2 := bb j2 hb; clear hb hbox hg; have j0R := jb.out; have j0S := jc.out; obtain ⟨jz, jA, jB, jC⟩ := bc2 j2) | ((with_reducible refine gate_dst (N := 3) rfl ?_); refine be (cs := #[.int .i64 0, .slice none 0 0]) (t := 25) ?_; intro ju hg w6 hbox hb; have j5 := Aside0.mk (hbox); have j0w := gz w hg (uB2 HB j6.out j9.out); have jf := gz w hg (uB2 HB j6.out j9.out); replace HB := Aside0.mk (below_step (uB2 HB j6.out j9.out) hb); have j7 := gl hg j2; have jd := gr hg j2; replace j2 := bb j2 hb; have j8 := gl hg j4; have je := gr hg j4; replace j4 := bb j4 hb; clear hb hbox hg; have j0T := jd.out; have j0U := j7.out; have j0V := je.out; have j0W := j8.out; obtain ⟨jD, jE, jF, jG⟩ := bc2 j5))
 go_loopg [4] k (fun kq v4 w' => ∃ (j0 : Int) (j3 : List (S33)) (u104001 : Value), v4 = .int .i64 j0 ∧ Aside0 (spec_l1Back.l0 kq j0 a0_0 l0_1 a0_0 j3 = some (r1, r2)) ∧ Aside0 (kq ≤ k) ∧ Aside0 (Kd.R k33 33 w' w.heap.size (fun _ => True) u104001 j3) ∧ Aside0 (w'.heap[jx]? = some (.cells #[.int .i64 a0_0, (.slice A0_1 l0_1.length c0_1)] 25 (0, 0))) ∧ Aside0 (w'.heap[jt]? = some (.cells #[.int .i64 0, (.slice none 0 0)] 25 (0, 0))) ∧ Aside0 (w'.heap[ju]? = some (.cells #[.int .i64 a0_0, u104001] 25 (0, 0))) ∧ Aside0 (Below w.heap.size w w'))
 case atStart => exact ⟨(0), (([] : List (S33))), (.slice none 0 0), ue, H', ⟨Nat.le_refl _⟩, ⟨by first | exact Kd.R_nil _ _ _ _ _ | exact Kd.N_nil _ _ _ _ _ | exact Kd.V_nil _ _ _ _ _ | exact Kd.Q_nil _ _ _ _ _ | exact Kd.S_nil _ _ _ _ _⟩, ⟨by (with_reducible repeat first | apply zbn | apply zbd | apply zba); refine fa2 ?_ j7; exact ub j2⟩, ⟨by (with_reducible repeat first | apply zbn | apply zbd | apply zba); refine fa2 ?_ j8; exact ub j4⟩, ⟨by (with_reducible repeat first | apply zbn | apply zbd | apply zba); refine pu2 (.int .i64 0) (.slice none 0 0) ?_; exact ub j5⟩, ⟨uB3 HB j6.out j9.out jf.out⟩⟩
 case round =>
  clear H'
  clear jz jA jD jE jB jC jF jG
  obtain ⟨j0, j3, u104001, rfl, HA, HK1, j1, j2, j4, j5, HB⟩ := hrel
  cases gk with
  | zero => exact absurd HA.out (by simp [spec_l1Back.l0])
  | succ k1 =>
   have H := HA.out; clear HA; simp only [spec_l1Back.l0] at H; by_cases c10 : j0 < (l0_1.length : Int)
   ·
    rw [if_pos c10] at H; have jK := dl c10; clear c10; by_cases c11 : 0 ≤ j0
    ·
     rw [if_pos c11] at H; have j0x := de c11; clear c11; by_cases c12 : j3.length < 3518437208883
     ·
      rw [if_pos c12] at H; have jL := Aside0.mk c12; clear c12; obtain ⟨jw, jj⟩ : ∃ y_ : List (S33), y_ = (j3 ++ [(⟨(rd_T33 l0_1 j0).f1, (rd_T33 l0_1 j0).f0, (rd_T33 l0_1 j0).f2, (rd_T33 l0_1 j0).f3, (rd_T33 l0_1 j0).f4⟩ : S33)]) := ⟨_, rfl⟩
      replace H : (spec_l1Back.l0 k1 (wrap64 (j0 + 1)) a0_0 l0_1 a0_0 jw) = some (r1, r2) := by first | (rw [jj]; with_reducible exact H) | (have H2_ := (Option.bind_some _ _).symm.trans H; rw [jj]; with_reducible exact H2_) | (have H2_ := (Option.bind_some _ _).symm.trans H; with_reducible exact H2_) | with_reducible exact H | (rw [jj]; exact H) | exact H
      have jM := Aside0.mk jj; clear jj; have H' := Aside0.mk H; clear H; have j0y := jb.out; have j0z := jc.out; have j0A := j7.out; have j0B := jd.out; obtain ⟨jQ, jR, jS, jT⟩ := bc2 j2; have jH : 0 ≤ (j0 : Int) := ua; have jI : j0 < (l0_1.length : Int) := ua; obtain ⟨jN, j0o, jk, jl, jm, jn, jo⟩ := at_T33 jJ.out j0 jH jI
      cases j0o
      replace jk := uc HB jk; replace jl := uc HB jl; replace jm := uc HB jm; replace jn := uc HB jn; replace jo := uc HB jo; replace jH := eq_true jH; replace jI := eq_true jI; go_wp2_with (first | ((with_reducible refine gate_dst (N := 5) rfl ?_); refine be (cs := #[.int .i64 0, .int .i64 0, .int .i64 0, .int .i64 0, .int .i64 0]) (t := 33) ?_; intro ja hg w16 hbox hb; replace j1 := Aside0.mk (Kd.R_below (Kd.R_elderB (ur j1) ja (Nat.le_of_eq hg.symm)) hb); have jp := Aside0.mk (hbox); have j0C := gz w hg (uB3 HB j6.out j9.out jf.out); have jv := gz w hg (uB3 HB j6.out j9.out jf.out); replace HB := Aside0.mk (below_step (uB3 HB j6.out j9.out jf.out) hb); have jg := gl hg j2; have jq := gr hg j2; replace j2 := bb j2 hb; have jh := gl hg j4; have jr := gr hg j4; replace j4 := bb j4 hb; have ji := gl hg j5; have js := gr hg j5; replace j5 := bb j5 hb; clear hb hbox hg; have j0D := jq.out; have j0E := jg.out; have j0F := jr.out; have j0G := jh.out; have j0H := js.out; have j0I := ji.out; obtain ⟨jU, jV, jW, jX, jY, jZ, j00, j01, j02, j03⟩ := bc5 jp; have j0J := je.out; have j0K := j8.out; obtain ⟨j04, j05, j06, j07⟩ := bc2 j5) | ((with_reducible refine gate_builtin (b := .append) (xs := #[.tmp 22, .tmp 34]) rfl ?_); at_builtin; refine Kd.R_append k33 (w0 := w) w.heap.size rfl (.tmp 22) (.tmp 34) 23 33 (.agg #[(.int .i64 0), (.int .i64 0), (.int .i64 0), (.int .i64 0), (.int .i64 0)]) 40 rfl Try.underlying23 info33 rfl (by decide) (by omega) u104001 j3 (⟨(rd_T33 l0_1 j0).f1, (rd_T33 l0_1 j0).f0, (rd_T33 l0_1 j0).f2, (rd_T33 l0_1 j0).f3, (rd_T33 l0_1 j0).f4⟩ : S33) [.int .i64 ((rd_T33 l0_1 j0).f1), .int .i64 ((rd_T33 l0_1 j0).f0), .int .i64 ((rd_T33 l0_1 j0).f2), .int .i64 ((rd_T33 l0_1 j0).f3), .int .i64 ((rd_T33 l0_1 j0).f4)] (fun k_ => k_ ≠ ja) (fun _ => False) rfl (by first | (go_simp; done) | (go_simp; rfl)) ?aP (fun _ hk => hk.elim) ?aF ?aO ?aB ?aS ?aL ?_; (case aP => exact k33_mkM _ _ _ (⟨(rd_T33 l0_1 j0).f1, (rd_T33 l0_1 j0).f0, (rd_T33 l0_1 j0).f2, (rd_T33 l0_1 j0).f3, (rd_T33 l0_1 j0).f4⟩ : S33)); (case aB => exact (uB4 HB j6.out j9.out jf.out jv.out)); (case aF => exact (fun k_ hk => Kd.freshB (g := ja) (o := .cells #[.int .i64 ((rd_T33 l0_1 j0).f0), .int .i64 ((rd_T33 l0_1 j0).f1), .int .i64 ((rd_T33 l0_1 j0).f2), .int .i64 ((rd_T33 l0_1 j0).f3), .int .i64 ((rd_T33 l0_1 j0).f4)] 33 (0, 0)) (by (with_reducible repeat first | apply zbn | apply zbd | apply zba); refine pu5 (.int .i64 0) (.int .i64 0) (.int .i64 0) (.int .i64 0) (.int .i64 0) ?_; exact ub jp) k_ hk)); (case aO => exact (by (with_reducible repeat (first | apply Kd.R_alloc | apply Kd.R_drewN | apply Kd.R_drew)); exact Kd.R_mono (Kd.R_far (p := ⟨ja, 4, none⟩) (Kd.R_far (p := ⟨ja, 3, none⟩) (Kd.R_far (p := ⟨ja, 2, none⟩) (Kd.R_far (p := ⟨ja, 1, none⟩) (Kd.R_far (p := ⟨ja, 0, none⟩) (Kd.R_mono j1.out (fun k_ hk => (⟨hk, hk.2⟩ : _ ∧ k_ ≠ ja))) (fun _ hk => hk.2) (.int .i64 ((rd_T33 l0_1 j0).f0))) (fun _ hk => hk.2) (.int .i64 ((rd_T33 l0_1 j0).f1))) (fun _ hk => hk.2) (.int .i64 ((rd_T33 l0_1 j0).f2))) (fun _ hk => hk.2) (.int .i64 ((rd_T33 l0_1 j0).f3))) (fun _ hk => hk.2) (.int .i64 ((rd_T33 l0_1 j0).f4))) (fun _ hk => hk.1.2))); (case aS => exact (below_size (uB4 HB j6.out j9.out jf.out jv.out))); (case aL => have := jL.out; omega); intro v107 w23 ho hb hg hat; rw [← jM.out] at ho; replace j2 := Aside0.mk (blk_grown (g := jx) (o := .cells #[.int .i64 a0_0, .slice (some jN) l0_1.length c0_1] 25 (0, 0)) (by (with_reducible repeat first | apply zbn | apply zbd | apply zba); refine fa5 ?_ jg; exact ub j2) hg (Kd.R_ne j1.out j2.out (by decide))); replace j4 := Aside0.mk (blk_grown (g := jt) (o := .cells #[.int .i64 0, .slice none 0 0] 25 (0, 0)) (by (with_reducible repeat first | apply zbn | apply zbd | apply zba); refine fa5 ?_ jh; exact ub j4) hg (Kd.R_ne j1.out j4.out (by decide))); replace j5 := Aside0.mk (blk_grown (g := ju) (o := .cells #[.int .i64 a0_0, u104001] 25 (0, 0)) (by (with_reducible repeat first | apply zbn | apply zbd | apply zba); refine fa5 ?_ ji; exact ub j5) hg (Kd.R_ne j1.out j5.out (by decide))); replace jp := Aside0.mk (blk_grown (g := ja) (o := .cells #[.int .i64 ((rd_T33 l0_1 j0).f0), .int .i64 ((rd_T33 l0_1 j0).f1), .int .i64 ((rd_T33 l0_1 j0).f2), .int .i64 ((rd_T33 l0_1 j0).f3), .int .i64 ((rd_T33 l0_1 j0).f4)] 33 (0, 0)) (by (with_reducible repeat first | apply zbn | apply zbd | apply zba); refine pu5 (.int .i64 0) (.int .i64 0) (.int .i64 0) (.int .i64 0) (.int .i64 0) ?_; exact ub jp) hg (Kd.R_away j1.out (fun _ hk => hk.2))); replace HB := Aside0.mk (hb); have jy := Aside0.mk (ho); clear j1; clear ho hb hg hat; obtain ⟨jO, jP, j0p⟩ := Kd.R_slice jy.out; subst j0p; obtain ⟨j08, j09, j0a, j0b⟩ := bc2 j5)); go_roundg k1
      case measure => have := HK1.out; omega
      case rel => exact ⟨(wrap64 (j0 + 1)), (jw), (.slice jO jw.length jP), ue, H', ⟨by have := HK1.out; omega⟩, ⟨by (with_reducible repeat (first | apply Kd.R_alloc | apply Kd.R_drewN | apply Kd.R_drew)); exact Kd.R_mono (Kd.R_far (p := ⟨ju, 1, none⟩) (Kd.R_types jy.out j5.out (by decide)) (fun _ hk => hk.2) (.slice jO jw.length jP)) (fun _ hk => trivial)⟩, ⟨by (with_reducible repeat first | apply zbn | apply zbd | apply zba); refine blk_far ?_ j7.out _; exact ub j2⟩, ⟨by (with_reducible repeat first | apply zbn | apply zbd | apply zba); refine blk_far ?_ j8.out _; exact ub j4⟩, ⟨by (with_reducible repeat first | apply zbn | apply zbd | apply zba); refine blk_put (cs := #[.int .i64 a0_0, u104001]) ?_ 1 _ rfl; exact ub j5⟩, ⟨uB4 HB j6.out j9.out jf.out jv.out⟩⟩
     ·
      rw [if_neg c12] at H; exact absurd H (by simp)
    ·
     rw [if_neg c11] at H; exact absurd H (by simp)
   ·
    rw [if_neg c10] at H; have jK := DL c10; clear c10; simp only [Option.some.injEq, Prod.mk.injEq] at H; obtain ⟨rfl, rfl⟩ := H; have j0L := jb.out; have j0M := jc.out; have j0N := j7.out; have j0O := jd.out; obtain ⟨j0c, j0d, j0e, j0f⟩ := bc2 j2; have j0P := je.out; have j0Q := j8.out; obtain ⟨j0g, j0h, j0i, j0j⟩ := bc2 j5; obtain ⟨j0k, j0l, j0m, j0n⟩ := bc2 j4; obtain ⟨j0q, j0r, j0s⟩ := Kd.R_slice j1.out; subst j0s; go_wp2; refine bodyPost_ret (results_cell_row rfl _ _ jt 25 #[.int .i64 a0_0, .slice j0q j3.length j0r] (0, 0) _ rfl (by (with_reducible repeat first | apply zbn | apply zbd | apply zba); refine pu2 (.int .i64 0) (.slice none 0 0) ?_; exact ub j4) Try.underlying25 rfl (by kernel_rfl)) rfl ?_; exact ⟨_, by first | rfl | (simp [errW_none, errW_some] <;> rfl) | (simp [*, errW_none, errW_some] <;> rfl), by (with_reducible repeat (first | apply Kd.R_alloc | apply Kd.R_drewN | apply Kd.R_drew)); exact Kd.R_mono (rf2 j1 j4) (fun _ hk => trivial), uB3 HB j6.out j9.out jf.out⟩

end Go.Proofs.Ytblpdfgplifccaa.P
