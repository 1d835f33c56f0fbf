-- written for this claim by a program (wip/gen/myprint.py over the print tool). Not trusted: Lean checks it.
import Derived.Test.YtblpdfgplifccaaPx0
import Derived.Test.YtblpdfgplifccaaHUp
import Derived.Test.YtblpdfgplifccaaGBase
namespace Go.Proofs.Ytblpdfgplifccaa.P
open Go.RowKit Go.Proofs.YtblpdfgplifccaaV.PrintWords Go.Proofs.YtblpdfgplifccaaV.PrintLast
set_option linter.unusedVariables false
set_option linter.unusedSimpArgs false

/-! ### bits_Mul64: function 126 -/
def bits_Mul64.f (a0 : Int) (a1 : Int) : Option (Int × Int) := some (IntKind.u64.wrap ((IntKind.u64.wrap ((IntKind.u64.wrap ((a0 / 4294967296) * (a1 / 4294967296))) + ((IntKind.u64.wrap ((IntKind.u64.wrap ((a0 / 4294967296) * (Go.bits .and .u64 a1 4294967295))) + ((IntKind.u64.wrap ((Go.bits .and .u64 a0 4294967295) * (Go.bits .and .u64 a1 4294967295))) / 4294967296))) / 4294967296))) + ((IntKind.u64.wrap ((Go.bits .and .u64 (IntKind.u64.wrap ((IntKind.u64.wrap ((a0 / 4294967296) * (Go.bits .and .u64 a1 4294967295))) + ((IntKind.u64.wrap ((Go.bits .and .u64 a0 4294967295) * (Go.bits .and .u64 a1 4294967295))) / 4294967296))) 4294967295) + (IntKind.u64.wrap ((Go.bits .and .u64 a0 4294967295) * (a1 / 4294967296))))) / 4294967296)), IntKind.u64.wrap (a0 * a1))
set_option maxHeartbeats 8000000 in
set_option maxRecDepth 100000 in
theorem bits_Mul64.calls (a0 : Int) (a1 : Int) (r1 : Int) (r2 : Int) (w : World) (h : bits_Mul64.f a0 a1 = some (r1, r2)) :
  Calls Try.prog 126 #[.int .u64 a0, .int .u64 a1] w fun e w' => e = .returned (.tuple #[.int .u64 r1, .int .u64 r2]) ∧ Drawn0 w w' := by
 have H : (some (IntKind.u64.wrap ((IntKind.u64.wrap ((IntKind.u64.wrap ((a0 / 4294967296) * (a1 / 4294967296))) + ((IntKind.u64.wrap ((IntKind.u64.wrap ((a0 / 4294967296) * (Go.bits .and .u64 a1 4294967295))) + ((IntKind.u64.wrap ((Go.bits .and .u64 a0 4294967295) * (Go.bits .and .u64 a1 4294967295))) / 4294967296))) / 4294967296))) + ((IntKind.u64.wrap ((Go.bits .and .u64 (IntKind.u64.wrap ((IntKind.u64.wrap ((a0 / 4294967296) * (Go.bits .and .u64 a1 4294967295))) + ((IntKind.u64.wrap ((Go.bits .and .u64 a0 4294967295) * (Go.bits .and .u64 a1 4294967295))) / 4294967296))) 4294967295) + (IntKind.u64.wrap ((Go.bits .and .u64 a0 4294967295) * (a1 / 4294967296))))) / 4294967296)), IntKind.u64.wrap (a0 * a1))) = some (r1, r2) := h
 clear h
 simp only [Option.some.injEq, Prod.mk.injEq] at H
 obtain ⟨rfl, rfl⟩ := H
 go_enter Try.func126, Try.ntmps126
 go_wp2
 go_ret2
 exact ⟨by first | rfl | (simp; done) | (simp [*]; done), by repeat (first | exact Drawn0.refl _ | apply Drawn0.step)⟩

end Go.Proofs.Ytblpdfgplifccaa.P
namespace Go.Proofs.Ytblpdfgplifccaa.P
open Go.RowKit Go.Proofs.YtblpdfgplifccaaV.PrintWords Go.Proofs.YtblpdfgplifccaaV.PrintLast
set_option linter.unusedVariables false
set_option linter.unusedSimpArgs false

/-! ### bits_Mul: function 124 -/
def bits_Mul.f (a0 : Int) (a1 : Int) : Option (Int × Int) := (bits_Mul64.f a0 a1).bind fun bt101 => (some (bt101.1, bt101.2))
set_option maxHeartbeats 8000000 in
set_option maxRecDepth 100000 in
theorem bits_Mul.calls (a0 : Int) (a1 : Int) (r1 : Int) (r2 : Int) (w : World) (h : bits_Mul.f a0 a1 = some (r1, r2)) :
  Calls Try.prog 124 #[.int .u64 a0, .int .u64 a1] w fun e w' => e = .returned (.tuple #[.int .u64 r1, .int .u64 r2]) ∧ Drawn0 w w' := by
 have H : ((bits_Mul64.f a0 a1).bind fun bt101 => (some (bt101.1, bt101.2))) = some (r1, r2) := h
 clear h
 replace H := Option.bind_eq_some_iff.mp H
 obtain ⟨⟨t101, t102⟩, A30, H⟩ := H
 replace H : (some (t101, t102)) = some (r1, r2) := H
 have A3 := Aside0.mk A30
 clear A30
 simp only [Option.some.injEq, Prod.mk.injEq] at H
 obtain ⟨rfl, rfl⟩ := H
 go_enter Try.func124, Try.ntmps124
 go_wp2_with (first | ((with_reducible refine gate_callee (f := 126) rfl ?_); refine goesL_ (some 25) rfl rfl Try.func126 (by kernel_rfl) rfl #[.int .u64 a0, .int .u64 a1] rfl ul ?_; (with_reducible refine (bits_Mul64.calls a0 a1 t101 t102 _ A3.out).mono ?_); rintro e w' ⟨rfl, ⟨nd, rfl⟩⟩; refine ⟨_, rfl, ?_⟩))
 go_ret2
 exact ⟨by first | rfl | (simp; done) | (simp [*]; done), by repeat (first | exact Drawn0.refl _ | apply Drawn0.step)⟩

end Go.Proofs.Ytblpdfgplifccaa.P
namespace Go.Proofs.Ytblpdfgplifccaa.P
open Go.RowKit Go.Proofs.YtblpdfgplifccaaV.PrintWords Go.Proofs.YtblpdfgplifccaaV.PrintLast
set_option linter.unusedVariables false
set_option linter.unusedSimpArgs false

/-! ### impl_measure_less: function 121 -/
def impl_measure_less.f (a0_0 : Int) (a0_1 : Int) (a1_0 : Int) (a1_1 : Int) : Option (Bool) := if a0_0 < a1_0 then (some true) else (if a0_0 = a1_0 then (some (decide (a0_1 < a1_1))) else (some false))
set_option maxHeartbeats 8000000 in
set_option maxRecDepth 100000 in
theorem impl_measure_less.calls (a0_0 : Int) (a0_1 : Int) (a1_0 : Int) (a1_1 : Int) (r : Bool) (w : World) (h : impl_measure_less.f a0_0 a0_1 a1_0 a1_1 = some r) :
  Calls Try.prog 121 #[.agg #[.int .i64 a0_0, .int .i64 a0_1], .agg #[.int .i64 a1_0, .int .i64 a1_1]] w fun e w' => e = .returned (.bool r) ∧ Below w.heap.size w w' := by
 have hu108 := Try.underlying108
 have HB := Aside0.mk (Below.refl w.heap.size w)
 have H : (if a0_0 < a1_0 then (some true) else (if a0_0 = a1_0 then (some (decide (a0_1 < a1_1))) else (some false))) = some r := h
 clear h
 by_cases c3 : a0_0 < a1_0
 ·
  rw [if_pos c3] at H; have c3b0 := dl c3; clear c3; obtain rfl := Option.some.inj H; go_enter Try.func121, Try.ntmps121; go_wp2_with (first | ((with_reducible refine gate_dst (N := 2) rfl ?_); refine be (cs := #[.int .i64 a0_0, .int .i64 a0_1]) (t := 108) ?_; intro gb101 hg w4 hbox hb; have BK101 := Aside0.mk (hbox); have GW101 := gz w hg (uB0 HB); have GE101 := gz w hg (uB0 HB); replace HB := Aside0.mk (below_step (uB0 HB) hb); clear hb hbox hg) | ((with_reducible refine gate_dst (N := 3) rfl ?_); refine be (cs := #[.int .i64 a1_0, .int .i64 a1_1]) (t := 108) ?_; intro gb102 hg w5 hbox hb; have BK102 := Aside0.mk (hbox); have GW102 := gz w hg (uB1 HB GE101.out); have GE102 := gz w hg (uB1 HB GE101.out); replace HB := Aside0.mk (below_step (uB1 HB GE101.out) hb); have NB101_102 := gl hg BK101; have NB102_101 := gr hg BK101; replace BK101 := bb BK101 hb; clear hb hbox hg; have hnb6 := NB101_102.out; have hnc6 := NB102_101.out; obtain ⟨hcz7_0, hcz7_1, hfz7_0, hfz7_1⟩ := bc2 BK101; obtain ⟨hcz8_0, hcz8_1, hfz8_0, hfz8_1⟩ := bc2 BK102)); go_ret; exact ⟨ux, uB2 HB GE101.out GE102.out⟩
 ·
  rw [if_neg c3] at H; have c3b0 := DL c3; clear c3; by_cases c9 : a0_0 = a1_0
  ·
   rw [if_pos c9] at H; obtain ⟨c9b0, c9b1⟩ := dq c9; clear c9; obtain rfl := Option.some.inj H; go_enter Try.func121, Try.ntmps121; go_wp2_with (first | ((with_reducible refine gate_dst (N := 2) rfl ?_); refine be (cs := #[.int .i64 a0_0, .int .i64 a0_1]) (t := 108) ?_; intro gb101 hg w10 hbox hb; have BK101 := Aside0.mk (hbox); have GW101 := gz w hg (uB0 HB); have GE101 := gz w hg (uB0 HB); replace HB := Aside0.mk (below_step (uB0 HB) hb); clear hb hbox hg) | ((with_reducible refine gate_dst (N := 3) rfl ?_); refine be (cs := #[.int .i64 a1_0, .int .i64 a1_1]) (t := 108) ?_; intro gb102 hg w11 hbox hb; have BK102 := Aside0.mk (hbox); have GW102 := gz w hg (uB1 HB GE101.out); have GE102 := gz w hg (uB1 HB GE101.out); replace HB := Aside0.mk (below_step (uB1 HB GE101.out) hb); have NB101_102 := gl hg BK101; have NB102_101 := gr hg BK101; replace BK101 := bb BK101 hb; clear hb hbox hg; have hnb12 := NB101_102.out; have hnc12 := NB102_101.out; obtain ⟨hcz13_0, hcz13_1, hfz13_0, hfz13_1⟩ := bc2 BK101; obtain ⟨hcz14_0, hcz14_1, hfz14_0, hfz14_1⟩ := bc2 BK102)); go_ret; exact ⟨ux, uB2 HB GE101.out GE102.out⟩
  ·
   rw [if_neg c9] at H; obtain ⟨c9b0, c9b1⟩ := dQ c9; obtain rfl := Option.some.inj H; go_enter Try.func121, Try.ntmps121; go_wp2_with (first | ((with_reducible refine gate_dst (N := 2) rfl ?_); refine be (cs := #[.int .i64 a0_0, .int .i64 a0_1]) (t := 108) ?_; intro gb101 hg w15 hbox hb; have BK101 := Aside0.mk (hbox); have GW101 := gz w hg (uB0 HB); have GE101 := gz w hg (uB0 HB); replace HB := Aside0.mk (below_step (uB0 HB) hb); clear hb hbox hg) | ((with_reducible refine gate_dst (N := 3) rfl ?_); refine be (cs := #[.int .i64 a1_0, .int .i64 a1_1]) (t := 108) ?_; intro gb102 hg w16 hbox hb; have BK102 := Aside0.mk (hbox); have GW102 := gz w hg (uB1 HB GE101.out); have GE102 := gz w hg (uB1 HB GE101.out); replace HB := Aside0.mk (below_step (uB1 HB GE101.out) hb); have NB101_102 := gl hg BK101; have NB102_101 := gr hg BK101; replace BK101 := bb BK101 hb; clear hb hbox hg; have hnb17 := NB101_102.out; have hnc17 := NB102_101.out; obtain ⟨hcz18_0, hcz18_1, hfz18_0, hfz18_1⟩ := bc2 BK101; obtain ⟨hcz19_0, hcz19_1, hfz19_0, hfz19_1⟩ := bc2 BK102)); go_ret; exact ⟨ux, uB2 HB GE101.out GE102.out⟩

end Go.Proofs.Ytblpdfgplifccaa.P
namespace Go.Proofs.Ytblpdfgplifccaa.P
open Go.RowKit Go.Proofs.YtblpdfgplifccaaV.PrintWords Go.Proofs.YtblpdfgplifccaaV.PrintLast
set_option linter.unusedVariables false
set_option linter.unusedSimpArgs false

/-! ### impl_costs: function 112 -/
def impl_costs.l0 : Nat → List Int → List (S108) → Int → Int → Option (List Int)
 | 0, _, _, _, _ => none
 | k + 1, x3, x9, x10, x11 => if x11 < x10 then (if 0 ≤ x11 then (if x11 < (x9.length : Int) then (if x3.length < 17592186044416 then (impl_costs.l0 k (x3 ++ [(rd_T108 x9 x11).f0]) x9 x10 (wrap64 (x11 + 1))) else (none)) else (none)) else (none)) else (some x3)
def impl_costs.f (k : Nat) (l0 : List (S108)) : Option (List Int) := if 0 ≤ (l0.length : Int) then (if ((l0.length : Int) : Int).toNat ≤ 35184372088832 then (impl_costs.l0 k (([] : List Int)) l0 (l0.length : Int) 0) else (none)) else (none)
set_option maxHeartbeats 8000000 in
set_option maxRecDepth 100000 in
theorem impl_costs.calls (k : Nat) (A0 : Option Addr) (c0 : Nat) (l0 : List (S108)) (r : List Int) (w : World) (hr0 : Kd.C k108 w A0 l0.length l0) (hc0 : l0.length ≤ c0) (h : impl_costs.f k l0 = some r) :
  Calls Try.prog 112 #[.slice A0 l0.length c0] w fun e w' => ∃ v0_ : Value, e = .returned (v0_) ∧ Kd.R (Kd.int .i64) 3 w' w.heap.size (fun _ => True) v0_ r ∧ Below w.heap.size w w' := by
 have hu108 := Try.underlying108
 have HR0 := Aside0.mk hr0
 have HC0 := Aside0.mk hc0
 clear hr0 hc0
 have HB := Aside0.mk (Below.refl w.heap.size w)
 have H : (if 0 ≤ (l0.length : Int) then (if ((l0.length : Int) : Int).toNat ≤ 35184372088832 then (impl_costs.l0 k (([] : List Int)) l0 (l0.length : Int) 0) else (none)) else (none)) = some r := h
 clear h
 by_cases c2 : 0 ≤ (l0.length : Int)
 ·
  rw [if_pos c2] at H; have c2b0 := eq_true c2; have c2b1 := de c2; clear c2; by_cases c3 : ((l0.length : Int) : Int).toNat ≤ 35184372088832
  ·
   rw [if_pos c3] at H; have c3b0 := eq_true c3; have c3b1 := de c3; clear c3; obtain ⟨y101, hy101⟩ : ∃ y_ : List Int, y_ = (([] : List Int)) := ⟨_, rfl⟩
   replace H : (impl_costs.l0 k y101 l0 (l0.length : Int) 0) = some r := by first | (rw [hy101]; with_reducible exact H) | (have H2_ := (Option.bind_some _ _).symm.trans H; rw [hy101]; with_reducible exact H2_) | (have H2_ := (Option.bind_some _ _).symm.trans H; with_reducible exact H2_) | with_reducible exact H | (rw [hy101]; exact H) | exact H
   have Ny101 := Aside0.mk hy101; clear hy101; have H' := Aside0.mk H; clear H; go_enter Try.func112, Try.ntmps112; go_wp2_with (first | ((with_reducible refine gate_dst (N := 8) rfl ?_); refine Kd.R_room (Kd.int .i64) _ 3 rfl (N := 8) rfl 26 _ _ rfl (l0.length : Int) rfl rfl Try.underlying26 (.int .i64 0) 8 info3 rfl (by omega) (ok := fun _ => True) trivial (ua) (Nat.le_trans (Nat.mul_le_mul_right _ (ua : (l0.length : Int).toNat ≤ 35184372088832)) (by omega)) (Below.refl _ _) (Nat.le_refl _) ?_; intro v102 w4 ho5 hb hg_ hnew_; clear hg_ hnew_; (first | rw [← Ny101.out] at ho5 | (simp only [Int.reduceToNat] at ho5; rw [← Ny101.out] at ho5)); have HO103 := Aside0.mk (Kd.R_lower ho5 (below_size (uB0 HB))); replace HB := Aside0.mk (below_step (uB0 HB) hb); clear hb ho5)); go_loopg [3, 11] k (fun kq v3 v11 w' => ∃ (x3_1 : List Int) (x11_1 : Int), v11 = .int .i64 x11_1 ∧ Aside0 (impl_costs.l0 kq x3_1 l0 (l0.length : Int) x11_1 = some r) ∧ Aside0 (kq ≤ k) ∧ Aside0 (Kd.R (Kd.int .i64) 3 w' w.heap.size (fun _ => True) v3 x3_1) ∧ Aside0 (Below w.heap.size w w'))
   case atStart => exact ⟨(y101), (0), ue, H', ⟨Nat.le_refl _⟩, ⟨ur HO103⟩, ⟨uB0 HB⟩⟩
   case round =>
    clear H'; try clear c1
    try clear c2
    try clear c2b0
    try clear c2b1
    try clear p2
    try clear c3
    try clear c3b0
    try clear c3b1
    obtain ⟨x3_1, x11_1, rfl, HA, HK1, HO_3, HB⟩ := hrel
    cases gk with
    | zero => exact absurd HA.out (by simp [impl_costs.l0])
    | succ k1 =>
     have H := HA.out; clear HA; simp only [impl_costs.l0] at H; by_cases c6 : x11_1 < (l0.length : Int)
     ·
      rw [if_pos c6] at H; have c6b0 := dl c6; clear c6; by_cases c7 : 0 ≤ x11_1
      ·
       rw [if_pos c7] at H; have c7b0 := de c7; clear c7; by_cases c8 : x11_1 < (l0.length : Int)
       ·
        rw [if_pos c8] at H; have c8b0 := dl c8; clear c8; by_cases c9 : x3_1.length < 17592186044416
        ·
         rw [if_pos c9] at H; have LMc9 := Aside0.mk c9; clear c9; obtain ⟨y106, hy106⟩ : ∃ y_ : List Int, y_ = (x3_1 ++ [(rd_T108 l0 x11_1).f0]) := ⟨_, rfl⟩
         replace H : (impl_costs.l0 k1 y106 l0 (l0.length : Int) (wrap64 (x11_1 + 1))) = some r := by first | (rw [hy106]; with_reducible exact H) | (have H2_ := (Option.bind_some _ _).symm.trans H; rw [hy106]; with_reducible exact H2_) | (have H2_ := (Option.bind_some _ _).symm.trans H; with_reducible exact H2_) | with_reducible exact H | (rw [hy106]; exact H) | exact H
         have Ny106 := Aside0.mk hy106; clear hy106; have H' := Aside0.mk H; clear H; have p104 : 0 ≤ (x11_1 : Int) := ua; have q104 : x11_1 < (l0.length : Int) := ua; obtain ⟨ad104, e104, hx104_0, hx104_1⟩ := at_T108 HR0.out x11_1 p104 q104
         cases e104
         replace hx104_0 := uc HB hx104_0; replace hx104_1 := uc HB hx104_1; replace p104 := eq_true p104; replace q104 := eq_true q104; go_wp2_with (first | ((with_reducible refine gate_dst (N := 5) rfl ?_); refine be (cs := #[.int .i64 0, .int .i64 0]) (t := 108) ?_; intro gb105 hg w10 hbox hb; replace HO_3 := Aside0.mk (Kd.R_below (ur HO_3) hb); have BK105 := Aside0.mk (hbox); have GW105 := gz w hg (uB0 HB); have GE105 := gz w hg (uB0 HB); replace HB := Aside0.mk (below_step (uB0 HB) hb); clear hb hbox hg; obtain ⟨hcz11_0, hcz11_1, hfz11_0, hfz11_1⟩ := bc2 BK105) | ((with_reducible refine gate_builtin (b := .append) (xs := #[.tmp 15, .tmp 18]) rfl ?_); at_builtin; refine Kd.R_append (Kd.int .i64) (w0 := w) w.heap.size rfl (.tmp 15) (.tmp 18) 26 3 (.int .i64 0) 8 rfl Try.underlying26 info3 rfl (by decide) (by omega) u3 x3_1 ((rd_T108 l0 x11_1).f0) [.int .i64 ((rd_T108 l0 x11_1).f0)] (fun _ => True) (fun _ => False) rfl (by first | (go_simp; done) | (go_simp; rfl)) ?aP (fun _ hk => hk.elim) ?aF ?aO ?aB ?aS ?aL ?_; (case aP => exact rfl); (case aB => exact (uB1 HB GE105.out)); (case aF => exact (fun _ _ => trivial)); (case aO => exact (by (with_reducible repeat (first | apply Kd.R_alloc | apply Kd.R_drewN | apply Kd.R_drew)); exact Kd.R_mono (rf2 HO_3 BK105) (fun _ hk => trivial))); (case aS => exact (below_size (uB1 HB GE105.out))); (case aL => have := LMc9.out; omega); intro v107 w12 ho hb hg hat; rw [← Ny106.out] at ho; replace BK105 := Aside0.mk (blk_grown (g := gb105) (o := .cells #[.int .i64 ((rd_T108 l0 x11_1).f0), .int .i64 ((rd_T108 l0 x11_1).f1)] 108 (0, 0)) (by (with_reducible repeat first | apply zbn | apply zbd | apply zba); refine pu2 (.int .i64 0) (.int .i64 0) ?_; exact ub BK105) hg (Kd.R_ne HO_3.out BK105.out (by decide))); replace HB := Aside0.mk (hb); have HO108 := Aside0.mk (ho); clear HO_3; clear ho hb hg hat)); go_roundg k1
         case measure => have := HK1.out; omega
         case rel => exact ⟨(y106), (wrap64 (x11_1 + 1)), ue, H', ⟨by have := HK1.out; omega⟩, ⟨ur HO108⟩, ⟨uB1 HB GE105.out⟩⟩
        ·
         rw [if_neg c9] at H; exact absurd H (by simp)
       ·
        rw [if_neg c8] at H; exact absurd H (by simp)
      ·
       rw [if_neg c7] at H; exact absurd H (by simp)
     ·
      rw [if_neg c6] at H; have c6b0 := DL c6; clear c6; obtain rfl := Option.some.inj H; go_wp2; go_ret; exact ⟨_, by first | rfl | (simp [errW_none, errW_some] <;> rfl) | (simp [*, errW_none, errW_some] <;> rfl), by (with_reducible repeat (first | apply Kd.R_alloc | apply Kd.R_drewN | apply Kd.R_drew)); exact HO_3.out, uB0 HB⟩
  ·
   rw [if_neg c3] at H; exact absurd H (by simp)
 ·
  rw [if_neg c2] at H; exact absurd H (by simp)

end Go.Proofs.Ytblpdfgplifccaa.P
namespace Go.Proofs.Ytblpdfgplifccaa.P
open Go.RowKit Go.Proofs.YtblpdfgplifccaaV.PrintWords Go.Proofs.YtblpdfgplifccaaV.PrintLast
set_option linter.unusedVariables false
set_option linter.unusedSimpArgs false

/-! ### spec_l11Nodes: function 86 -/
def spec_l11Nodes.l0 : Nat → List Int → Int → Int → List (S33) → Option (Bool)
 | 0, _, _, _, _ => none
 | k + 1, x1, x5, x102000, x102001 => if x5 < (x1.length : Int) then (if 0 ≤ x5 then ((spec_l1In.f (rd x1 x5) 0 (wrap64 (x102000 - 1))).bind fun t103 => (if t103 = true then (spec_l11Nodes.l0 k x1 (wrap64 (x5 + 1)) x102000 x102001) else (some false))) else (none)) else (some (decide ((x1.length : Int) ≤ 8)))
def spec_l11Nodes.f (k : Nat) (a0_0 : Int) (l0_1 : List (S33)) (l1 : List Int) : Option (Bool) := spec_l11Nodes.l0 k l1 0 a0_0 l0_1
set_option maxHeartbeats 8000000 in
set_option maxRecDepth 100000 in
theorem spec_l11Nodes.calls (k : Nat) (a0_0 : Int) (A0_1 : Option Addr) (c0_1 : Nat) (l0_1 : List (S33)) (A1 : Option Addr) (c1 : Nat) (l1 : List Int) (r : Bool) (w : World) (hr0_1 : Kd.C k33 w A0_1 l0_1.length l0_1) (hc0_1 : l0_1.length ≤ c0_1) (hr1 : Kd.C (Kd.int .i64) w A1 l1.length l1) (hc1 : l1.length ≤ c1) (h : spec_l11Nodes.f k a0_0 l0_1 l1 = some r) :
  Calls Try.prog 86 #[.agg #[.int .i64 a0_0, .slice A0_1 l0_1.length c0_1], .slice A1 l1.length c1] w fun e w' => e = .returned (.bool r) ∧ Below w.heap.size w w' := by
 have hu25 := Try.underlying25
 have HR0_1 := Aside0.mk hr0_1
 have HC0_1 := Aside0.mk hc0_1
 clear hr0_1 hc0_1
 have HR1 := Aside0.mk hr1
 have HC1 := Aside0.mk hc1
 clear hr1 hc1
 have HB := Aside0.mk (Below.refl w.heap.size w)
 have H : (spec_l11Nodes.l0 k l1 0 a0_0 l0_1) = some r := h
 clear h
 have H' := Aside0.mk H
 clear H
 go_enter Try.func86, Try.ntmps86
 go_wp2_with (first | ((with_reducible refine gate_dst (N := 2) rfl ?_); refine be (cs := #[.int .i64 a0_0, .slice A0_1 l0_1.length c0_1]) (t := 25) ?_; intro gb101 hg w3 hbox hb; have BK101 := Aside0.mk (hbox); have GW101 := gz w hg (uB0 HB); have GE101 := gz w hg (uB0 HB); replace HB := Aside0.mk (below_step (uB0 HB) hb); clear hb hbox hg))
 repeat (go_quiet (first | ((with_reducible refine gate_dst (N := 2) rfl ?_); refine be (cs := #[.int .i64 a0_0, .slice A0_1 l0_1.length c0_1]) (t := 25) ?_; intro gb101 hg w3 hbox hb; have BK101 := Aside0.mk (hbox); have GW101 := gz w hg (uB0 HB); have GE101 := gz w hg (uB0 HB); replace HB := Aside0.mk (below_step (uB0 HB) hb); clear hb hbox hg)); try go_wp2_with (first | ((with_reducible refine gate_dst (N := 2) rfl ?_); refine be (cs := #[.int .i64 a0_0, .slice A0_1 l0_1.length c0_1]) (t := 25) ?_; intro gb101 hg w3 hbox hb; have BK101 := Aside0.mk (hbox); have GW101 := gz w hg (uB0 HB); have GE101 := gz w hg (uB0 HB); replace HB := Aside0.mk (below_step (uB0 HB) hb); clear hb hbox hg)))
 go_loopg [5] k (fun kq v5 w' => ∃ (x5_1 : Int), v5 = .int .i64 x5_1 ∧ Aside0 (spec_l11Nodes.l0 kq l1 x5_1 a0_0 l0_1 = some r) ∧ Aside0 (kq ≤ k) ∧ Aside0 (w'.heap[gb101]? = some (.cells #[.int .i64 a0_0, (.slice A0_1 l0_1.length c0_1)] 25 (0, 0))) ∧ Aside0 (Below w.heap.size w w'))
 case atStart => exact ⟨(0), ue, H', ⟨Nat.le_refl _⟩, ⟨ub BK101⟩, ⟨uB1 HB GE101.out⟩⟩
 case round =>
  clear H'; try clear c1
  try clear p2
  obtain ⟨x5_1, rfl, HA, HK1, BK101, HB⟩ := hrel
  cases gk with
  | zero => exact absurd HA.out (by simp [spec_l11Nodes.l0])
  | succ k1 =>
   have H := HA.out; clear HA; simp only [spec_l11Nodes.l0] at H; by_cases c4 : x5_1 < (l1.length : Int)
   ·
    rw [if_pos c4] at H; have c4b0 := dl c4; clear c4; by_cases c5 : 0 ≤ x5_1
    ·
     rw [if_pos c5] at H; have c5b0 := de c5; clear c5; replace H := Option.bind_eq_some_iff.mp H; obtain ⟨t103, A60, H⟩ := H; replace H : (if t103 = true then (spec_l11Nodes.l0 k1 l1 (wrap64 (x5_1 + 1)) a0_0 l0_1) else (some false)) = some r := H; have A6 := Aside0.mk A60; clear A60; by_cases c7 : t103 = true
     ·
      subst c7; rw [if_pos rfl] at H; have H' := Aside0.mk H; clear H; have p102 : 0 ≤ (x5_1 : Int) := ua; have q102 : x5_1 < (l1.length : Int) := ua; obtain ⟨ad102, e102, hx102_0⟩ := Kd.at_int HR1.out x5_1 p102 q102
      cases e102
      replace hx102_0 := uc HB hx102_0; replace p102 := eq_true p102; replace q102 := eq_true q102; obtain ⟨hcz8_0, hcz8_1, hfz8_0, hfz8_1⟩ := bc2 BK101; go_wp2_with (first | (go_at_call 83; (with_reducible refine (spec_l1In.calls (rd l1 x5_1) 0 (wrap64 (a0_0 - 1)) true _ A6.out).mono ?_); rintro e w' ⟨rfl, ⟨nd, rfl⟩⟩; (try first | exact ⟨rfl, _, World.drewN_drewN _ _ _⟩ | exact ⟨rfl, _, Eq.trans (World.drewN_drewN _ _ _) (congrArg (World.drewN _) (Nat.add_assoc _ _ _))⟩)))
      repeat (go_quiet (first | (go_at_call 83; (with_reducible refine (spec_l1In.calls (rd l1 x5_1) 0 (wrap64 (a0_0 - 1)) true _ A6.out).mono ?_); rintro e w' ⟨rfl, ⟨nd, rfl⟩⟩; (try first | exact ⟨rfl, _, World.drewN_drewN _ _ _⟩ | exact ⟨rfl, _, Eq.trans (World.drewN_drewN _ _ _) (congrArg (World.drewN _) (Nat.add_assoc _ _ _))⟩))); try go_wp2_with (first | (go_at_call 83; (with_reducible refine (spec_l1In.calls (rd l1 x5_1) 0 (wrap64 (a0_0 - 1)) true _ A6.out).mono ?_); rintro e w' ⟨rfl, ⟨nd, rfl⟩⟩; (try first | exact ⟨rfl, _, World.drewN_drewN _ _ _⟩ | exact ⟨rfl, _, Eq.trans (World.drewN_drewN _ _ _) (congrArg (World.drewN _) (Nat.add_assoc _ _ _))⟩))))
      go_roundg k1
      case measure => have := HK1.out; omega
      case rel => exact ⟨(wrap64 (x5_1 + 1)), ue, H', ⟨by have := HK1.out; omega⟩, ⟨ub BK101⟩, ⟨uB1 HB GE101.out⟩⟩
     ·
      replace c7 := Bool.eq_false_iff.mpr c7; subst c7; rw [if_neg (show ¬ (false = true) by decide)] at H; obtain rfl := Option.some.inj H; have p102 : 0 ≤ (x5_1 : Int) := ua; have q102 : x5_1 < (l1.length : Int) := ua; obtain ⟨ad102, e102, hx102_0⟩ := Kd.at_int HR1.out x5_1 p102 q102
      cases e102
      replace hx102_0 := uc HB hx102_0; replace p102 := eq_true p102; replace q102 := eq_true q102; obtain ⟨hcz9_0, hcz9_1, hfz9_0, hfz9_1⟩ := bc2 BK101; go_wp2_with (first | (go_at_call 83; (with_reducible refine (spec_l1In.calls (rd l1 x5_1) 0 (wrap64 (a0_0 - 1)) false _ A6.out).mono ?_); rintro e w' ⟨rfl, ⟨nd, rfl⟩⟩; (try first | exact ⟨rfl, _, World.drewN_drewN _ _ _⟩ | exact ⟨rfl, _, Eq.trans (World.drewN_drewN _ _ _) (congrArg (World.drewN _) (Nat.add_assoc _ _ _))⟩)))
      repeat (go_quiet (first | (go_at_call 83; (with_reducible refine (spec_l1In.calls (rd l1 x5_1) 0 (wrap64 (a0_0 - 1)) false _ A6.out).mono ?_); rintro e w' ⟨rfl, ⟨nd, rfl⟩⟩; (try first | exact ⟨rfl, _, World.drewN_drewN _ _ _⟩ | exact ⟨rfl, _, Eq.trans (World.drewN_drewN _ _ _) (congrArg (World.drewN _) (Nat.add_assoc _ _ _))⟩))); try go_wp2_with (first | (go_at_call 83; (with_reducible refine (spec_l1In.calls (rd l1 x5_1) 0 (wrap64 (a0_0 - 1)) false _ A6.out).mono ?_); rintro e w' ⟨rfl, ⟨nd, rfl⟩⟩; (try first | exact ⟨rfl, _, World.drewN_drewN _ _ _⟩ | exact ⟨rfl, _, Eq.trans (World.drewN_drewN _ _ _) (congrArg (World.drewN _) (Nat.add_assoc _ _ _))⟩))))
      go_ret; exact ⟨ux, uB1 HB GE101.out⟩
    ·
     rw [if_neg c5] at H; exact absurd H (by simp)
   ·
    rw [if_neg c4] at H; have c4b0 := DL c4; clear c4; obtain rfl := Option.some.inj H; go_wp2
    repeat (go_quiet (fail); try go_wp2)
    go_ret; exact ⟨ux, uB1 HB GE101.out⟩

end Go.Proofs.Ytblpdfgplifccaa.P
namespace Go.Proofs.Ytblpdfgplifccaa.P
open Go.RowKit Go.Proofs.YtblpdfgplifccaaV.PrintWords Go.Proofs.YtblpdfgplifccaaV.PrintLast
set_option linter.unusedVariables false
set_option linter.unusedSimpArgs false

/-! ### spec_l1Back: function 118 -/
def spec_l1Back.l0 : Nat → Int → Int → List (S33) → Int → List (S33) → Option (Int × (List (S33)))
 | 0, _, _, _, _, _ => none
 | k + 1, x4, x102000, x102001, x104000, x104001 => if x4 < (x102001.length : Int) then (if 0 ≤ x4 then (if x104001.length < 3518437208883 then (spec_l1Back.l0 k (wrap64 (x4 + 1)) x102000 x102001 x104000 (x104001 ++ [(⟨(rd_T33 x102001 x4).f1, (rd_T33 x102001 x4).f0, (rd_T33 x102001 x4).f2, (rd_T33 x102001 x4).f3, (rd_T33 x102001 x4).f4⟩ : S33)])) else (none)) else (none)) else (some (x104000, x104001))
def spec_l1Back.f (k : Nat) (a0_0 : Int) (l0_1 : List (S33)) : Option (Int × (List (S33))) := spec_l1Back.l0 k 0 a0_0 l0_1 a0_0 ([] : List (S33))
set_option maxHeartbeats 8000000 in
set_option maxRecDepth 100000 in
theorem spec_l1Back.calls (k : Nat) (a0_0 : Int) (A0_1 : Option Addr) (c0_1 : Nat) (l0_1 : List (S33)) (r1 : Int) (r2 : List (S33)) (w : World) (hr0_1 : Kd.C k33 w A0_1 l0_1.length l0_1) (hc0_1 : l0_1.length ≤ c0_1) (h : spec_l1Back.f k a0_0 l0_1 = some (r1, r2)) :
  Calls Try.prog 118 #[.agg #[.int .i64 a0_0, .slice A0_1 l0_1.length c0_1]] w fun e w' => ∃ v1_ : Value, e = .returned (.agg #[.int .i64 r1, v1_]) ∧ Kd.R k33 33 w' w.heap.size (fun _ => True) v1_ r2 ∧ Below w.heap.size w w' := by
 have hu25 := Try.underlying25
 have hu33 := Try.underlying33
 have HR0_1 := Aside0.mk hr0_1
 have HC0_1 := Aside0.mk hc0_1
 clear hr0_1 hc0_1
 have HB := Aside0.mk (Below.refl w.heap.size w)
 have H : (spec_l1Back.l0 k 0 a0_0 l0_1 a0_0 ([] : List (S33))) = some (r1, r2) := h
 clear h
 have H' := Aside0.mk H
 clear H
 go_enter Try.func118, Try.ntmps118
 go_wp2_with (first | ((with_reducible refine gate_dst (N := 1) rfl ?_); refine be (cs := #[.int .i64 a0_0, .slice A0_1 l0_1.length c0_1]) (t := 25) ?_; intro gb101 hg w2 hbox hb; have BK101 := Aside0.mk (hbox); have GW101 := gz w hg (uB0 HB); have GE101 := gz w hg (uB0 HB); replace HB := Aside0.mk (below_step (uB0 HB) hb); clear hb hbox hg) | ((with_reducible refine gate_dst (N := 2) rfl ?_); refine be (cs := #[.int .i64 0, .slice none 0 0]) (t := 25) ?_; intro gb102 hg w3 hbox hb; have BK102 := Aside0.mk (hbox); have GW102 := gz w hg (uB1 HB GE101.out); have GE102 := gz w hg (uB1 HB GE101.out); replace HB := Aside0.mk (below_step (uB1 HB GE101.out) hb); have NB101_102 := gl hg BK101; have NB102_101 := gr hg BK101; replace BK101 := bb BK101 hb; clear hb hbox hg; have hnb4 := NB101_102.out; have hnc4 := NB102_101.out; obtain ⟨hcz5_0, hcz5_1, hfz5_0, hfz5_1⟩ := bc2 BK101) | ((with_reducible refine gate_dst (N := 3) rfl ?_); refine be (cs := #[.int .i64 0, .slice none 0 0]) (t := 25) ?_; intro gb103 hg w6 hbox hb; have BK103 := Aside0.mk (hbox); have GW103 := gz w hg (uB2 HB GE101.out GE102.out); have GE103 := gz w hg (uB2 HB GE101.out GE102.out); replace HB := Aside0.mk (below_step (uB2 HB GE101.out GE102.out) hb); have NB101_103 := gl hg BK101; have NB103_101 := gr hg BK101; replace BK101 := bb BK101 hb; have NB102_103 := gl hg BK102; have NB103_102 := gr hg BK102; replace BK102 := bb BK102 hb; clear hb hbox hg; have hnb7 := NB103_101.out; have hnc7 := NB101_103.out; have hnb8 := NB103_102.out; have hnc8 := NB102_103.out; obtain ⟨hcz9_0, hcz9_1, hfz9_0, hfz9_1⟩ := bc2 BK103))
 go_loopg [4] k (fun kq v4 w' => ∃ (x4_1 : Int) (x104001_1 : List (S33)) (u104001 : Value), v4 = .int .i64 x4_1 ∧ Aside0 (spec_l1Back.l0 kq x4_1 a0_0 l0_1 a0_0 x104001_1 = some (r1, r2)) ∧ Aside0 (kq ≤ k) ∧ Aside0 (Kd.R k33 33 w' w.heap.size (fun _ => True) u104001 x104001_1) ∧ Aside0 (w'.heap[gb101]? = some (.cells #[.int .i64 a0_0, (.slice A0_1 l0_1.length c0_1)] 25 (0, 0))) ∧ Aside0 (w'.heap[gb102]? = some (.cells #[.int .i64 0, (.slice none 0 0)] 25 (0, 0))) ∧ Aside0 (w'.heap[gb103]? = some (.cells #[.int .i64 a0_0, u104001] 25 (0, 0))) ∧ Aside0 (Below w.heap.size w w'))
 case atStart => exact ⟨(0), (([] : List (S33))), (.slice none 0 0), ue, H', ⟨Nat.le_refl _⟩, ⟨by first | exact Kd.R_nil _ _ _ _ _ | exact Kd.N_nil _ _ _ _ _ | exact Kd.V_nil _ _ _ _ _ | exact Kd.Q_nil _ _ _ _ _ | exact Kd.S_nil _ _ _ _ _⟩, ⟨by (with_reducible repeat first | apply zbn | apply zbd | apply zba); refine fa2 ?_ NB101_103; exact ub BK101⟩, ⟨by (with_reducible repeat first | apply zbn | apply zbd | apply zba); refine fa2 ?_ NB102_103; exact ub BK102⟩, ⟨by (with_reducible repeat first | apply zbn | apply zbd | apply zba); refine pu2 (.int .i64 0) (.slice none 0 0) ?_; exact ub BK103⟩, ⟨uB3 HB GE101.out GE102.out GE103.out⟩⟩
 case round =>
  clear H'; try clear c1
  try clear p2
  try clear c4
  try clear c7
  try clear c8
  try clear hcz5_0 hcz5_1
  try clear hcz9_0 hcz9_1
  try clear hfz5_0 hfz5_1
  try clear hfz9_0 hfz9_1
  obtain ⟨x4_1, x104001_1, u104001, rfl, HA, HK1, HO_104001, BK101, BK102, BK103, HB⟩ := hrel
  cases gk with
  | zero => exact absurd HA.out (by simp [spec_l1Back.l0])
  | succ k1 =>
   have H := HA.out; clear HA; simp only [spec_l1Back.l0] at H; by_cases c10 : x4_1 < (l0_1.length : Int)
   ·
    rw [if_pos c10] at H; have c10b0 := dl c10; clear c10; by_cases c11 : 0 ≤ x4_1
    ·
     rw [if_pos c11] at H; have c11b0 := de c11; clear c11; by_cases c12 : x104001_1.length < 3518437208883
     ·
      rw [if_pos c12] at H; have LMc12 := Aside0.mk c12; clear c12; obtain ⟨y106, hy106⟩ : ∃ y_ : List (S33), y_ = (x104001_1 ++ [(⟨(rd_T33 l0_1 x4_1).f1, (rd_T33 l0_1 x4_1).f0, (rd_T33 l0_1 x4_1).f2, (rd_T33 l0_1 x4_1).f3, (rd_T33 l0_1 x4_1).f4⟩ : S33)]) := ⟨_, rfl⟩
      replace H : (spec_l1Back.l0 k1 (wrap64 (x4_1 + 1)) a0_0 l0_1 a0_0 y106) = some (r1, r2) := by first | (rw [hy106]; with_reducible exact H) | (have H2_ := (Option.bind_some _ _).symm.trans H; rw [hy106]; with_reducible exact H2_) | (have H2_ := (Option.bind_some _ _).symm.trans H; with_reducible exact H2_) | with_reducible exact H | (rw [hy106]; exact H) | exact H
      have Ny106 := Aside0.mk hy106; clear hy106; have H' := Aside0.mk H; clear H; have hnb13 := NB101_102.out; have hnc13 := NB102_101.out; have hnb14 := NB101_103.out; have hnc14 := NB103_101.out; obtain ⟨hcz15_0, hcz15_1, hfz15_0, hfz15_1⟩ := bc2 BK101; have p104 : 0 ≤ (x4_1 : Int) := ua; have q104 : x4_1 < (l0_1.length : Int) := ua; obtain ⟨ad104, e104, hx104_0, hx104_1, hx104_2, hx104_3, hx104_4⟩ := at_T33 HR0_1.out x4_1 p104 q104
      cases e104
      replace hx104_0 := uc HB hx104_0; replace hx104_1 := uc HB hx104_1; replace hx104_2 := uc HB hx104_2; replace hx104_3 := uc HB hx104_3; replace hx104_4 := uc HB hx104_4; replace p104 := eq_true p104; replace q104 := eq_true q104; go_wp2_with (first | ((with_reducible refine gate_dst (N := 5) rfl ?_); refine be (cs := #[.int .i64 0, .int .i64 0, .int .i64 0, .int .i64 0, .int .i64 0]) (t := 33) ?_; intro gb105 hg w16 hbox hb; replace HO_104001 := Aside0.mk (Kd.R_below (Kd.R_elderB (ur HO_104001) gb105 (Nat.le_of_eq hg.symm)) hb); have BK105 := Aside0.mk (hbox); have GW105 := gz w hg (uB3 HB GE101.out GE102.out GE103.out); have GE105 := gz w hg (uB3 HB GE101.out GE102.out GE103.out); replace HB := Aside0.mk (below_step (uB3 HB GE101.out GE102.out GE103.out) hb); have NB101_105 := gl hg BK101; have NB105_101 := gr hg BK101; replace BK101 := bb BK101 hb; have NB102_105 := gl hg BK102; have NB105_102 := gr hg BK102; replace BK102 := bb BK102 hb; have NB103_105 := gl hg BK103; have NB105_103 := gr hg BK103; replace BK103 := bb BK103 hb; clear hb hbox hg; have hnb17 := NB105_101.out; have hnc17 := NB101_105.out; have hnb18 := NB105_102.out; have hnc18 := NB102_105.out; have hnb19 := NB105_103.out; have hnc19 := NB103_105.out; obtain ⟨hcz20_0, hcz20_1, hcz20_2, hcz20_3, hcz20_4, hfz20_0, hfz20_1, hfz20_2, hfz20_3, hfz20_4⟩ := bc5 BK105; have hnb21 := NB103_102.out; have hnc21 := NB102_103.out; obtain ⟨hcz22_0, hcz22_1, hfz22_0, hfz22_1⟩ := bc2 BK103) | ((with_reducible refine gate_builtin (b := .append) (xs := #[.tmp 22, .tmp 34]) rfl ?_); at_builtin; refine Kd.R_append k33 (w0 := w) w.heap.size rfl (.tmp 22) (.tmp 34) 23 33 (.agg #[(.int .i64 0), (.int .i64 0), (.int .i64 0), (.int .i64 0), (.int .i64 0)]) 40 rfl Try.underlying23 info33 rfl (by decide) (by omega) u104001 x104001_1 (⟨(rd_T33 l0_1 x4_1).f1, (rd_T33 l0_1 x4_1).f0, (rd_T33 l0_1 x4_1).f2, (rd_T33 l0_1 x4_1).f3, (rd_T33 l0_1 x4_1).f4⟩ : S33) [.int .i64 ((rd_T33 l0_1 x4_1).f1), .int .i64 ((rd_T33 l0_1 x4_1).f0), .int .i64 ((rd_T33 l0_1 x4_1).f2), .int .i64 ((rd_T33 l0_1 x4_1).f3), .int .i64 ((rd_T33 l0_1 x4_1).f4)] (fun k_ => k_ ≠ gb105) (fun _ => False) rfl (by first | (go_simp; done) | (go_simp; rfl)) ?aP (fun _ hk => hk.elim) ?aF ?aO ?aB ?aS ?aL ?_; (case aP => exact k33_mkM _ _ _ (⟨(rd_T33 l0_1 x4_1).f1, (rd_T33 l0_1 x4_1).f0, (rd_T33 l0_1 x4_1).f2, (rd_T33 l0_1 x4_1).f3, (rd_T33 l0_1 x4_1).f4⟩ : S33)); (case aB => exact (uB4 HB GE101.out GE102.out GE103.out GE105.out)); (case aF => exact (fun k_ hk => Kd.freshB (g := gb105) (o := .cells #[.int .i64 ((rd_T33 l0_1 x4_1).f0), .int .i64 ((rd_T33 l0_1 x4_1).f1), .int .i64 ((rd_T33 l0_1 x4_1).f2), .int .i64 ((rd_T33 l0_1 x4_1).f3), .int .i64 ((rd_T33 l0_1 x4_1).f4)] 33 (0, 0)) (by (with_reducible repeat first | apply zbn | apply zbd | apply zba); refine pu5 (.int .i64 0) (.int .i64 0) (.int .i64 0) (.int .i64 0) (.int .i64 0) ?_; exact ub BK105) k_ hk)); (case aO => exact (by (with_reducible repeat (first | apply Kd.R_alloc | apply Kd.R_drewN | apply Kd.R_drew)); exact Kd.R_mono (Kd.R_far (p := ⟨gb105, 4, none⟩) (Kd.R_far (p := ⟨gb105, 3, none⟩) (Kd.R_far (p := ⟨gb105, 2, none⟩) (Kd.R_far (p := ⟨gb105, 1, none⟩) (Kd.R_far (p := ⟨gb105, 0, none⟩) (Kd.R_mono HO_104001.out (fun k_ hk => (⟨hk, hk.2⟩ : _ ∧ k_ ≠ gb105))) (fun _ hk => hk.2) (.int .i64 ((rd_T33 l0_1 x4_1).f0))) (fun _ hk => hk.2) (.int .i64 ((rd_T33 l0_1 x4_1).f1))) (fun _ hk => hk.2) (.int .i64 ((rd_T33 l0_1 x4_1).f2))) (fun _ hk => hk.2) (.int .i64 ((rd_T33 l0_1 x4_1).f3))) (fun _ hk => hk.2) (.int .i64 ((rd_T33 l0_1 x4_1).f4))) (fun _ hk => hk.1.2))); (case aS => exact (below_size (uB4 HB GE101.out GE102.out GE103.out GE105.out))); (case aL => have := LMc12.out; omega); intro v107 w23 ho hb hg hat; rw [← Ny106.out] at ho; replace BK101 := Aside0.mk (blk_grown (g := gb101) (o := .cells #[.int .i64 a0_0, .slice (some ad104) l0_1.length c0_1] 25 (0, 0)) (by (with_reducible repeat first | apply zbn | apply zbd | apply zba); refine fa5 ?_ NB101_105; exact ub BK101) hg (Kd.R_ne HO_104001.out BK101.out (by decide))); replace BK102 := Aside0.mk (blk_grown (g := gb102) (o := .cells #[.int .i64 0, .slice none 0 0] 25 (0, 0)) (by (with_reducible repeat first | apply zbn | apply zbd | apply zba); refine fa5 ?_ NB102_105; exact ub BK102) hg (Kd.R_ne HO_104001.out BK102.out (by decide))); replace BK103 := Aside0.mk (blk_grown (g := gb103) (o := .cells #[.int .i64 a0_0, u104001] 25 (0, 0)) (by (with_reducible repeat first | apply zbn | apply zbd | apply zba); refine fa5 ?_ NB103_105; exact ub BK103) hg (Kd.R_ne HO_104001.out BK103.out (by decide))); replace BK105 := Aside0.mk (blk_grown (g := gb105) (o := .cells #[.int .i64 ((rd_T33 l0_1 x4_1).f0), .int .i64 ((rd_T33 l0_1 x4_1).f1), .int .i64 ((rd_T33 l0_1 x4_1).f2), .int .i64 ((rd_T33 l0_1 x4_1).f3), .int .i64 ((rd_T33 l0_1 x4_1).f4)] 33 (0, 0)) (by (with_reducible repeat first | apply zbn | apply zbd | apply zba); refine pu5 (.int .i64 0) (.int .i64 0) (.int .i64 0) (.int .i64 0) (.int .i64 0) ?_; exact ub BK105) hg (Kd.R_away HO_104001.out (fun _ hk => hk.2))); replace HB := Aside0.mk (hb); have HO108 := Aside0.mk (ho); clear HO_104001; clear ho hb hg hat; obtain ⟨Ao24, co24, eo24⟩ := Kd.R_slice HO108.out; subst eo24; obtain ⟨hcz25_0, hcz25_1, hfz25_0, hfz25_1⟩ := bc2 BK103)); go_roundg k1
      case measure => have := HK1.out; omega
      case rel => exact ⟨(wrap64 (x4_1 + 1)), (y106), (.slice Ao24 y106.length co24), ue, H', ⟨by have := HK1.out; omega⟩, ⟨by (with_reducible repeat (first | apply Kd.R_alloc | apply Kd.R_drewN | apply Kd.R_drew)); exact Kd.R_mono (Kd.R_far (p := ⟨gb103, 1, none⟩) (Kd.R_types HO108.out BK103.out (by decide)) (fun _ hk => hk.2) (.slice Ao24 y106.length co24)) (fun _ hk => trivial)⟩, ⟨by (with_reducible repeat first | apply zbn | apply zbd | apply zba); refine blk_far ?_ NB101_103.out _; exact ub BK101⟩, ⟨by (with_reducible repeat first | apply zbn | apply zbd | apply zba); refine blk_far ?_ NB102_103.out _; exact ub BK102⟩, ⟨by (with_reducible repeat first | apply zbn | apply zbd | apply zba); refine blk_put (cs := #[.int .i64 a0_0, u104001]) ?_ 1 _ rfl; exact ub BK103⟩, ⟨uB4 HB GE101.out GE102.out GE103.out GE105.out⟩⟩
     ·
      rw [if_neg c12] at H; exact absurd H (by simp)
    ·
     rw [if_neg c11] at H; exact absurd H (by simp)
   ·
    rw [if_neg c10] at H; have c10b0 := DL c10; clear c10; simp only [Option.some.injEq, Prod.mk.injEq] at H; obtain ⟨rfl, rfl⟩ := H; have hnb26 := NB101_102.out; have hnc26 := NB102_101.out; have hnb27 := NB101_103.out; have hnc27 := NB103_101.out; obtain ⟨hcz28_0, hcz28_1, hfz28_0, hfz28_1⟩ := bc2 BK101; have hnb29 := NB103_102.out; have hnc29 := NB102_103.out; obtain ⟨hcz30_0, hcz30_1, hfz30_0, hfz30_1⟩ := bc2 BK103; obtain ⟨hcz31_0, hcz31_1, hfz31_0, hfz31_1⟩ := bc2 BK102; obtain ⟨Ao32, co32, eo32⟩ := Kd.R_slice HO_104001.out; subst eo32; go_wp2; refine bodyPost_ret (results_cell_row rfl _ _ gb102 25 #[.int .i64 a0_0, .slice Ao32 x104001_1.length co32] (0, 0) _ rfl (by (with_reducible repeat first | apply zbn | apply zbd | apply zba); refine pu2 (.int .i64 0) (.slice none 0 0) ?_; exact ub BK102) Try.underlying25 rfl (by kernel_rfl)) rfl ?_; exact ⟨_, by first | rfl | (simp [errW_none, errW_some] <;> rfl) | (simp [*, errW_none, errW_some] <;> rfl), by (with_reducible repeat (first | apply Kd.R_alloc | apply Kd.R_drewN | apply Kd.R_drew)); exact Kd.R_mono (rf2 HO_104001 BK102) (fun _ hk => trivial), uB3 HB GE101.out GE102.out GE103.out⟩

end Go.Proofs.Ytblpdfgplifccaa.P
