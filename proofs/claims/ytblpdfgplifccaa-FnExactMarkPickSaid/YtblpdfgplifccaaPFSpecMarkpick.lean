-- written for this claim by a program (wip/gen/myprint.py over the print tool). Not trusted: Lean checks it.
import Derived.Test.YtblpdfgplifccaaPx0
import Derived.Test.YtblpdfgplifccaaHUp
import Derived.Test.YtblpdfgplifccaaGBase
import Derived.Test.YtblpdfgplifccaaPFSpecL12In
import Derived.Test.YtblpdfgplifccaaHWay
namespace Go.Proofs.Ytblpdfgplifccaa.P
open Go.RowKit Go.Proofs.YtblpdfgplifccaaV.PrintWords Go.Proofs.YtblpdfgplifccaaV.PrintLast
set_option linter.unusedVariables false
set_option linter.unusedSimpArgs false

/-! ### spec_MarkPick: function 41 -/
mutual
def spec_MarkPick.j0 : Nat → Int → List Int → Bool → Int → List (S33) → Option (List Int)
 | 0, _, _, _, _, _ => none
 | k + 1, x1, x5, x20, x102000, x102001 => if x20 = true then (some ([] : List Int)) else (spec_MarkPick.l0 k x1 x5 x102000 x102001)
def spec_MarkPick.l0 : Nat → Int → List Int → Int → List (S33) → Option (List Int)
 | 0, _, _, _, _ => none
 | k + 1, x1, x5, x102000, x102001 => if (x5.length : Int) < x1 then (spec_MarkPick.l1 k x1 x5 (-1) (-1) 0 x102000 x102001) else (some x5)
def spec_MarkPick.l1 : Nat → Int → List Int → Int → Int → Int → Int → List (S33) → Option (List Int)
 | 0, _, _, _, _, _, _, _ => none
 | k + 1, x1, x5, x6, x7, x8, x102000, x102001 => if x8 < x102000 then ((spec_l12Way.f k x102000 x102001 x5 x8).bind fun t110 => ((spec_l12In.f k x5 x8).bind fun t111 => (if t111 = true then (spec_MarkPick.l1 k x1 x5 x6 x7 (wrap64 (x8 + 1)) x102000 x102001) else (if t110 > x6 then (spec_MarkPick.l1 k x1 x5 t110 x8 (wrap64 (x8 + 1)) x102000 x102001) else (spec_MarkPick.l1 k x1 x5 x6 x7 (wrap64 (x8 + 1)) x102000 x102001))))) else (if x5.length < 17592186044416 then (spec_MarkPick.l0 k x1 (x5 ++ [x7]) x102000 x102001) else (none))
end
def spec_MarkPick.f (k : Nat) (a0_0 : Int) (l0_1 : List (S33)) (a1 : Int) : Option (List Int) := (some (([] : List Int) : List Int)).bind fun y102 => ((spec_l1Ok.f k a0_0 l0_1).bind fun t105 => (if t105 = true then ((spec_l1In.f a1 0 a0_0).bind fun t106 => (spec_MarkPick.j0 k a1 y102 (!t106) a0_0 l0_1)) else (spec_MarkPick.j0 k a1 y102 true a0_0 l0_1)))
set_option maxHeartbeats 8000000 in
set_option maxRecDepth 100000 in
theorem spec_MarkPick.calls (k : Nat) (a0_0 : Int) (A0_1 : Option Addr) (c0_1 : Nat) (l0_1 : List (S33)) (a1 : Int) (r : List Int) (w : World) (hr0_1 : Kd.C k33 w A0_1 l0_1.length l0_1) (hc0_1 : l0_1.length ≤ c0_1) (h : spec_MarkPick.f k a0_0 l0_1 a1 = some r) :
  Calls Try.prog 41 #[.agg #[.int .i64 a0_0, .slice A0_1 l0_1.length c0_1], .int .i64 a1] w fun e w' => ∃ v0_ : Value, e = .returned (v0_) ∧ Kd.R (Kd.int .i64) 3 w' w.heap.size (fun _ => True) v0_ r ∧ Below w.heap.size w w' := by
 have hu25 := Try.underlying25
 have HR0_1 := Aside0.mk hr0_1
 have HC0_1 := Aside0.mk hc0_1
 clear hr0_1 hc0_1
 have HB := Aside0.mk (Below.refl w.heap.size w)
 have H : ((some (([] : List Int) : List Int)).bind fun y102 => ((spec_l1Ok.f k a0_0 l0_1).bind fun t105 => (if t105 = true then ((spec_l1In.f a1 0 a0_0).bind fun t106 => (spec_MarkPick.j0 k a1 y102 (!t106) a0_0 l0_1)) else (spec_MarkPick.j0 k a1 y102 true a0_0 l0_1)))) = some r := h
 clear h
 obtain ⟨y102, hy102⟩ : ∃ y_ : List Int, y_ = (([] : List Int)) := ⟨_, rfl⟩
 replace H : ((spec_l1Ok.f k a0_0 l0_1).bind fun t105 => (if t105 = true then ((spec_l1In.f a1 0 a0_0).bind fun t106 => (spec_MarkPick.j0 k a1 y102 (!t106) a0_0 l0_1)) else (spec_MarkPick.j0 k a1 y102 true a0_0 l0_1))) = some r := by first | (rw [hy102]; with_reducible exact H) | (have H2_ := (Option.bind_some _ _).symm.trans H; rw [hy102]; with_reducible exact H2_) | (have H2_ := (Option.bind_some _ _).symm.trans H; with_reducible exact H2_) | with_reducible exact H | (rw [hy102]; exact H) | exact H
 have Ny102 := Aside0.mk hy102
 clear hy102
 have HC3 := Aside0.mk H
 clear H
 go_enter Try.func41, Try.ntmps41
 go_upto_region 2 with (first | ((with_reducible refine gate_dst (N := 2) rfl ?_); refine be (cs := #[.int .i64 a0_0, .slice A0_1 l0_1.length c0_1]) (t := 25) ?_; intro gb101 hg w4 hbox hb; have BK101 := Aside0.mk (hbox); have GW101 := gz w hg (uB0 HB); have GE101 := gz w hg (uB0 HB); replace HB := Aside0.mk (below_step (uB0 HB) hb); clear hb hbox hg) | ((with_reducible refine gate_dst (N := 10) rfl ?_); refine Kd.R_lit (Kd.int .i64) _ 3 ?hg (N := 10) ?hd (xs := ([] : List Int)) (inner := []) (ok := fun _ => True) (okp := fun _ => True) ?hr ?hp (fun _ hk => hk) trivial (Below.refl _ _) (Nat.le_refl _) (by simp) ?_; (case hd => rfl); (case hg => rfl); (case hr => first | (go_simp; done) | (go_simp; rfl)); (case hp => exact (Reps.none _ _)); intro v103 w5 ho6 hb hg_ hnew_; clear hg_ hnew_; (first | rw [← Ny102.out] at ho6 | (simp only [Int.reduceToNat] at ho6; rw [← Ny102.out] at ho6)); have HO104 := Aside0.mk (Kd.R_lower ho6 (below_size (uB1 HB GE101.out))); replace BK101 := bb BK101 hb; replace HB := Aside0.mk (below_step (uB1 HB GE101.out) hb); clear hb ho6))
 (try simp only [Act.put, List.setIfInBounds_toArray, List.set_cons_zero, List.set_cons_succ])
 go_cut [20] (fun v20 wc => ∃ (kq : Nat) (x20_2 : Bool), v20 = .bool x20_2 ∧ Aside0 (spec_MarkPick.j0 kq a1 y102 x20_2 a0_0 l0_1 = some r) ∧ Aside0 (kq ≤ k) ∧ Aside0 (Kd.R (Kd.int .i64) 3 wc w.heap.size (fun _ => True) v103 y102) ∧ Aside0 (wc.heap[gb101]? = some (.cells #[.int .i64 a0_0, (.slice A0_1 l0_1.length c0_1)] 25 (0, 0))) ∧ Aside0 (Below w.heap.size w wc))
 case first =>
  have H := HC3.out; clear HC3; replace H := Option.bind_eq_some_iff.mp H; obtain ⟨t105, A70, H⟩ := H; replace H : (if t105 = true then ((spec_l1In.f a1 0 a0_0).bind fun t106 => (spec_MarkPick.j0 k a1 y102 (!t106) a0_0 l0_1)) else (spec_MarkPick.j0 k a1 y102 true a0_0 l0_1)) = some r := H; have A7 := Aside0.mk A70; clear A70; by_cases c8 : t105 = true
  ·
   subst c8; rw [if_pos rfl] at H; replace H := Option.bind_eq_some_iff.mp H; obtain ⟨t106, A90, H⟩ := H; replace H : (spec_MarkPick.j0 k a1 y102 (!t106) a0_0 l0_1) = some r := H; have A9 := Aside0.mk A90; clear A90; have H' := Aside0.mk H; clear H; obtain ⟨hcz10_0, hcz10_1, hfz10_0, hfz10_1⟩ := bc2 BK101; go_wp2_with (first | ((with_reducible refine gate_callee (f := 60) rfl ?_); refine goesL_ (some 12) rfl rfl Try.func60 (by kernel_rfl) rfl #[.agg #[.int .i64 a0_0, .slice A0_1 l0_1.length c0_1]] rfl ul ?_; (with_reducible refine (spec_l1Ok.calls k a0_0 _ _ l0_1 true _ ?side1 ?side2 A7.out).mono ?_); (case side1 => exact uC HR0_1 HB); (case side2 => exact HC0_1.out); rintro e w11 ⟨rfl, hb⟩; refine ⟨_, rfl, ?_⟩; replace HO104 := Aside0.mk (Kd.R_below (ur HO104) hb); replace BK101 := bb BK101 hb; replace HB := Aside0.mk (below_step (uB1 HB GE101.out) hb); (try clear hb); (try clear hb2); (try clear hk); (try clear hi); obtain ⟨hcz12_0, hcz12_1, hfz12_0, hfz12_1⟩ := bc2 BK101) | (go_at_call 83; (with_reducible refine (spec_l1In.calls a1 0 a0_0 t106 _ A9.out).mono ?_); rintro e w' ⟨rfl, ⟨nd, rfl⟩⟩)); go_meet
   case rel => exact ⟨_, (!t106), ue, H', ⟨by first | omega | exact Nat.le_refl _⟩, ⟨ur HO104⟩, ⟨ub BK101⟩, ⟨uB1 HB GE101.out⟩⟩
  ·
   replace c8 := Bool.eq_false_iff.mpr c8; subst c8; rw [if_neg (show ¬ (false = true) by decide)] at H; have H' := Aside0.mk H; clear H; obtain ⟨hcz13_0, hcz13_1, hfz13_0, hfz13_1⟩ := bc2 BK101; go_wp2_with (first | ((with_reducible refine gate_callee (f := 60) rfl ?_); refine goesL_ (some 12) rfl rfl Try.func60 (by kernel_rfl) rfl #[.agg #[.int .i64 a0_0, .slice A0_1 l0_1.length c0_1]] rfl ul ?_; (with_reducible refine (spec_l1Ok.calls k a0_0 _ _ l0_1 false _ ?side1 ?side2 A7.out).mono ?_); (case side1 => exact uC HR0_1 HB); (case side2 => exact HC0_1.out); rintro e w14 ⟨rfl, hb⟩; refine ⟨_, rfl, ?_⟩; replace HO104 := Aside0.mk (Kd.R_below (ur HO104) hb); replace BK101 := bb BK101 hb; replace HB := Aside0.mk (below_step (uB1 HB GE101.out) hb); (try clear hb); (try clear hb2); (try clear hk); (try clear hi))); go_meet
   case rel => exact ⟨_, (true), ue, H', ⟨by first | omega | exact Nat.le_refl _⟩, ⟨ur HO104⟩, ⟨ub BK101⟩, ⟨uB1 HB GE101.out⟩⟩
 case rest =>
  clear HC3; try clear p2
  try clear c4
  try clear c6
  try clear c8
  try clear hcz10_0 hcz10_1
  try clear hcz12_0 hcz12_1
  try clear hcz13_0 hcz13_1
  try clear hfz10_0 hfz10_1
  try clear hfz12_0 hfz12_1
  try clear hfz13_0 hfz13_1
  obtain ⟨kq, x20_2, rfl, HA, HJ2, HO_5, BK101, HB⟩ := hcut
  cases kq with
  | zero => exact absurd HA.out (by simp [spec_MarkPick.j0])
  | succ kj2 =>
   have H := HA.out; clear HA; simp only [spec_MarkPick.j0] at H; by_cases c15 : x20_2 = true
   ·
    subst c15; rw [if_pos rfl] at H; obtain rfl := Option.some.inj H; go_wp2; go_ret; exact ⟨_, by first | rfl | (simp [errW_none, errW_some] <;> rfl) | (simp [*, errW_none, errW_some] <;> rfl), by first | exact Kd.R_nil _ _ _ _ _ | exact Kd.N_nil _ _ _ _ _ | exact Kd.V_nil _ _ _ _ _ | exact Kd.Q_nil _ _ _ _ _ | exact Kd.S_nil _ _ _ _ _, uB1 HB GE101.out⟩
   ·
    replace c15 := Bool.eq_false_iff.mpr c15; subst c15; rw [if_neg (show ¬ (false = true) by decide)] at H; have H' := Aside0.mk H; clear H; go_wp2; go_loopg [5] kj2 (fun kq v5 w' => ∃ (x5_2 : List Int), Aside0 (spec_MarkPick.l0 kq a1 x5_2 a0_0 l0_1 = some r) ∧ Aside0 (kq ≤ kj2) ∧ Aside0 (Kd.R (Kd.int .i64) 3 w' w.heap.size (fun _ => True) v5 x5_2) ∧ Aside0 (w'.heap[gb101]? = some (.cells #[.int .i64 a0_0, (.slice A0_1 l0_1.length c0_1)] 25 (0, 0))) ∧ Aside0 (Below w.heap.size w w'))
    case atStart => exact ⟨(y102), H', ⟨Nat.le_refl _⟩, ⟨ur HO_5⟩, ⟨ub BK101⟩, ⟨uB1 HB GE101.out⟩⟩
    case round =>
     clear H'; try clear c1
     try clear p2
     try clear c4
     try clear c6
     try clear c8
     try clear c15
     try clear hcz10_0 hcz10_1
     try clear hcz12_0 hcz12_1
     try clear hcz13_0 hcz13_1
     try clear hfz10_0 hfz10_1
     try clear hfz12_0 hfz12_1
     try clear hfz13_0 hfz13_1
     try clear p2
     obtain ⟨x5_2, HA, HK2, HO_5, BK101, HB⟩ := hrel
     cases gk with
     | zero => exact absurd HA.out (by simp [spec_MarkPick.l0])
     | succ k2 =>
      have H := HA.out; clear HA; simp only [spec_MarkPick.l0] at H; by_cases c16 : (x5_2.length : Int) < a1
      ·
       rw [if_pos c16] at H; have c16b0 := dl c16; clear c16; have H' := Aside0.mk H; clear H; obtain ⟨Ao17, co17, eo17⟩ := Kd.R_slice HO_5.out; subst eo17; go_wp2; go_loopg [6, 7, 8] k2 (fun kq v6 v7 v8 w' => ∃ (x6_3 : Int) (x7_3 : Int) (x8_3 : Int), v6 = .int .i64 x6_3 ∧ v7 = .int .i64 x7_3 ∧ v8 = .int .i64 x8_3 ∧ Aside0 (spec_MarkPick.l1 kq a1 x5_2 x6_3 x7_3 x8_3 a0_0 l0_1 = some r) ∧ Aside0 (kq ≤ k2) ∧ Aside0 (Kd.R (Kd.int .i64) 3 w' w.heap.size (fun _ => True) (.slice Ao17 x5_2.length co17) x5_2) ∧ Aside0 (w'.heap[gb101]? = some (.cells #[.int .i64 a0_0, (.slice A0_1 l0_1.length c0_1)] 25 (0, 0))) ∧ Aside0 (Below w.heap.size w w'))
       case atStart => exact ⟨((-1)), ((-1)), (0), ue, ue, ue, H', ⟨Nat.le_refl _⟩, ⟨ur HO_5⟩, ⟨ub BK101⟩, ⟨uB1 HB GE101.out⟩⟩
       case round =>
        clear H'; try clear c1
        try clear p2
        try clear c4
        try clear c6
        try clear c8
        try clear c15
        try clear c16
        try clear c16b0
        try clear hcz10_0 hcz10_1
        try clear hcz12_0 hcz12_1
        try clear hcz13_0 hcz13_1
        try clear hfz10_0 hfz10_1
        try clear hfz12_0 hfz12_1
        try clear hfz13_0 hfz13_1
        try clear p2
        obtain ⟨x6_3, x7_3, x8_3, rfl, rfl, rfl, HA, HK3, HO_5, BK101, HB⟩ := hrel
        cases gk with
        | zero => exact absurd HA.out (by simp [spec_MarkPick.l1])
        | succ k3 =>
         have H := HA.out; clear HA; simp only [spec_MarkPick.l1] at H; by_cases c18 : x8_3 < a0_0
         ·
          rw [if_pos c18] at H; have c18b0 := dl c18; clear c18; replace H := Option.bind_eq_some_iff.mp H; obtain ⟨t110, A190, H⟩ := H; replace H : ((spec_l12In.f k3 x5_2 x8_3).bind fun t111 => (if t111 = true then (spec_MarkPick.l1 k3 a1 x5_2 x6_3 x7_3 (wrap64 (x8_3 + 1)) a0_0 l0_1) else (if t110 > x6_3 then (spec_MarkPick.l1 k3 a1 x5_2 t110 x8_3 (wrap64 (x8_3 + 1)) a0_0 l0_1) else (spec_MarkPick.l1 k3 a1 x5_2 x6_3 x7_3 (wrap64 (x8_3 + 1)) a0_0 l0_1)))) = some r := H; have A19 := Aside0.mk A190; clear A190; replace H := Option.bind_eq_some_iff.mp H; obtain ⟨t111, A200, H⟩ := H; replace H : (if t111 = true then (spec_MarkPick.l1 k3 a1 x5_2 x6_3 x7_3 (wrap64 (x8_3 + 1)) a0_0 l0_1) else (if t110 > x6_3 then (spec_MarkPick.l1 k3 a1 x5_2 t110 x8_3 (wrap64 (x8_3 + 1)) a0_0 l0_1) else (spec_MarkPick.l1 k3 a1 x5_2 x6_3 x7_3 (wrap64 (x8_3 + 1)) a0_0 l0_1))) = some r := H; have A20 := Aside0.mk A200; clear A200; by_cases c21 : t111 = true
          ·
           subst c21; rw [if_pos rfl] at H; have H' := Aside0.mk H; clear H; obtain ⟨hcz22_0, hcz22_1, hfz22_0, hfz22_1⟩ := bc2 BK101; go_wp2_with (first | ((with_reducible refine gate_callee (f := 84) rfl ?_); refine goesL_ (some 34) rfl rfl Try.func84 (by kernel_rfl) rfl #[.agg #[.int .i64 a0_0, .slice A0_1 l0_1.length c0_1], .slice Ao17 x5_2.length co17, .int .i64 x8_3] rfl ul ?_; (with_reducible refine (spec_l12Way.calls k3 a0_0 _ _ l0_1 _ _ x5_2 x8_3 t110 _ ?side1 ?side2 ?side3 ?side4 A19.out).mono ?_); (case side1 => exact uC HR0_1 HB); (case side2 => exact HC0_1.out); (case side3 => exact uD (Kd.R_reads' HO_5.out).2.2); (case side4 => exact (Kd.R_reads' HO_5.out).2.1); rintro e w23 ⟨rfl, hb⟩; refine ⟨_, rfl, ?_⟩; replace HO_5 := Aside0.mk (Kd.R_below (ur HO_5) hb); replace BK101 := bb BK101 hb; replace HB := Aside0.mk (below_step (uB1 HB GE101.out) hb); (try clear hb); (try clear hb2); (try clear hk); (try clear hi)) | ((with_reducible refine gate_callee (f := 85) rfl ?_); refine goesL_ (some 37) rfl rfl Try.func85 (by kernel_rfl) rfl #[.slice Ao17 x5_2.length co17, .int .i64 x8_3] rfl ul ?_; (with_reducible refine (spec_l12In.calls k3 _ _ x5_2 x8_3 true _ ?side1 ?side2 A20.out).mono ?_); (case side1 => exact uD (Kd.R_reads' HO_5.out).2.2); (case side2 => exact (Kd.R_reads' HO_5.out).2.1); rintro e w' ⟨rfl, ⟨nd, rfl⟩⟩; refine ⟨_, rfl, ?_⟩)); go_roundg k3
           case measure => have := HJ2.out; have := HK2.out; have := HK3.out; omega
           case rel => exact ⟨(x6_3), (x7_3), (wrap64 (x8_3 + 1)), ue, ue, ue, H', ⟨by have := HJ2.out; have := HK2.out; have := HK3.out; omega⟩, ⟨ur HO_5⟩, ⟨ub BK101⟩, ⟨uB1 HB GE101.out⟩⟩
          ·
           replace c21 := Bool.eq_false_iff.mpr c21; subst c21; rw [if_neg (show ¬ (false = true) by decide)] at H; by_cases c24 : t110 > x6_3
           ·
            rw [if_pos c24] at H; have c24b0 := dl c24; clear c24; have H' := Aside0.mk H; clear H; obtain ⟨hcz25_0, hcz25_1, hfz25_0, hfz25_1⟩ := bc2 BK101; go_wp2_with (first | ((with_reducible refine gate_callee (f := 84) rfl ?_); refine goesL_ (some 34) rfl rfl Try.func84 (by kernel_rfl) rfl #[.agg #[.int .i64 a0_0, .slice A0_1 l0_1.length c0_1], .slice Ao17 x5_2.length co17, .int .i64 x8_3] rfl ul ?_; (with_reducible refine (spec_l12Way.calls k3 a0_0 _ _ l0_1 _ _ x5_2 x8_3 t110 _ ?side1 ?side2 ?side3 ?side4 A19.out).mono ?_); (case side1 => exact uC HR0_1 HB); (case side2 => exact HC0_1.out); (case side3 => exact uD (Kd.R_reads' HO_5.out).2.2); (case side4 => exact (Kd.R_reads' HO_5.out).2.1); rintro e w26 ⟨rfl, hb⟩; refine ⟨_, rfl, ?_⟩; replace HO_5 := Aside0.mk (Kd.R_below (ur HO_5) hb); replace BK101 := bb BK101 hb; replace HB := Aside0.mk (below_step (uB1 HB GE101.out) hb); (try clear hb); (try clear hb2); (try clear hk); (try clear hi)) | ((with_reducible refine gate_callee (f := 85) rfl ?_); refine goesL_ (some 37) rfl rfl Try.func85 (by kernel_rfl) rfl #[.slice Ao17 x5_2.length co17, .int .i64 x8_3] rfl ul ?_; (with_reducible refine (spec_l12In.calls k3 _ _ x5_2 x8_3 false _ ?side1 ?side2 A20.out).mono ?_); (case side1 => exact uD (Kd.R_reads' HO_5.out).2.2); (case side2 => exact (Kd.R_reads' HO_5.out).2.1); rintro e w' ⟨rfl, ⟨nd, rfl⟩⟩; refine ⟨_, rfl, ?_⟩)); go_roundg k3
            case measure => have := HJ2.out; have := HK2.out; have := HK3.out; omega
            case rel => exact ⟨(t110), (x8_3), (wrap64 (x8_3 + 1)), ue, ue, ue, H', ⟨by have := HJ2.out; have := HK2.out; have := HK3.out; omega⟩, ⟨ur HO_5⟩, ⟨ub BK101⟩, ⟨uB1 HB GE101.out⟩⟩
           ·
            rw [if_neg c24] at H; have c24b0 := DL c24; clear c24; have H' := Aside0.mk H; clear H; obtain ⟨hcz27_0, hcz27_1, hfz27_0, hfz27_1⟩ := bc2 BK101; go_wp2_with (first | ((with_reducible refine gate_callee (f := 84) rfl ?_); refine goesL_ (some 34) rfl rfl Try.func84 (by kernel_rfl) rfl #[.agg #[.int .i64 a0_0, .slice A0_1 l0_1.length c0_1], .slice Ao17 x5_2.length co17, .int .i64 x8_3] rfl ul ?_; (with_reducible refine (spec_l12Way.calls k3 a0_0 _ _ l0_1 _ _ x5_2 x8_3 t110 _ ?side1 ?side2 ?side3 ?side4 A19.out).mono ?_); (case side1 => exact uC HR0_1 HB); (case side2 => exact HC0_1.out); (case side3 => exact uD (Kd.R_reads' HO_5.out).2.2); (case side4 => exact (Kd.R_reads' HO_5.out).2.1); rintro e w28 ⟨rfl, hb⟩; refine ⟨_, rfl, ?_⟩; replace HO_5 := Aside0.mk (Kd.R_below (ur HO_5) hb); replace BK101 := bb BK101 hb; replace HB := Aside0.mk (below_step (uB1 HB GE101.out) hb); (try clear hb); (try clear hb2); (try clear hk); (try clear hi)) | ((with_reducible refine gate_callee (f := 85) rfl ?_); refine goesL_ (some 37) rfl rfl Try.func85 (by kernel_rfl) rfl #[.slice Ao17 x5_2.length co17, .int .i64 x8_3] rfl ul ?_; (with_reducible refine (spec_l12In.calls k3 _ _ x5_2 x8_3 false _ ?side1 ?side2 A20.out).mono ?_); (case side1 => exact uD (Kd.R_reads' HO_5.out).2.2); (case side2 => exact (Kd.R_reads' HO_5.out).2.1); rintro e w' ⟨rfl, ⟨nd, rfl⟩⟩; refine ⟨_, rfl, ?_⟩)); go_roundg k3
            case measure => have := HJ2.out; have := HK2.out; have := HK3.out; omega
            case rel => exact ⟨(x6_3), (x7_3), (wrap64 (x8_3 + 1)), ue, ue, ue, H', ⟨by have := HJ2.out; have := HK2.out; have := HK3.out; omega⟩, ⟨ur HO_5⟩, ⟨ub BK101⟩, ⟨uB1 HB GE101.out⟩⟩
         ·
          rw [if_neg c18] at H; have c18b0 := DL c18; clear c18; by_cases c29 : x5_2.length < 17592186044416
          ·
           rw [if_pos c29] at H; have LMc29 := Aside0.mk c29; clear c29; obtain ⟨y107, hy107⟩ : ∃ y_ : List Int, y_ = (x5_2 ++ [x7_3]) := ⟨_, rfl⟩
           replace H : (spec_MarkPick.l0 k3 a1 y107 a0_0 l0_1) = some r := by first | (rw [hy107]; with_reducible exact H) | (have H2_ := (Option.bind_some _ _).symm.trans H; rw [hy107]; with_reducible exact H2_) | (have H2_ := (Option.bind_some _ _).symm.trans H; with_reducible exact H2_) | with_reducible exact H | (rw [hy107]; exact H) | exact H
           have Ny107 := Aside0.mk hy107; clear hy107; have H' := Aside0.mk H; clear H; obtain ⟨hcz30_0, hcz30_1, hfz30_0, hfz30_1⟩ := bc2 BK101; go_wp2_with (first | ((with_reducible refine gate_builtin (b := .append) (xs := #[.tmp 46, .tmp 48]) rfl ?_); at_builtin; refine Kd.R_append (Kd.int .i64) (w0 := w) w.heap.size rfl (.tmp 46) (.tmp 48) 26 3 (.int .i64 0) 8 rfl Try.underlying26 info3 rfl (by decide) (by omega) (.slice Ao17 x5_2.length co17) x5_2 x7_3 [.int .i64 x7_3] (fun _ => True) (fun _ => False) rfl rfl ?aP (fun _ hk => hk.elim) ?aF ?aO ?aB ?aS ?aL ?_; (case aP => exact rfl); (case aB => exact (uB1 HB GE101.out)); (case aF => exact (fun _ _ => trivial)); (case aO => exact (ur HO_5)); (case aS => exact (below_size (uB1 HB GE101.out))); (case aL => have := LMc29.out; omega); intro v108 w31 ho hb hg hat; rw [← Ny107.out] at ho; replace BK101 := bg BK101 hg (Kd.R_ne HO_5.out BK101.out (by decide)); replace HB := Aside0.mk (hb); have HO109 := Aside0.mk (ho); clear HO_5; clear ho hb hg hat)); go_roundg k3
           case measure => have := HJ2.out; have := HK2.out; have := HK3.out; omega
           case rel => exact ⟨(y107), H', ⟨by have := HJ2.out; have := HK2.out; have := HK3.out; omega⟩, ⟨ur HO109⟩, ⟨ub BK101⟩, ⟨uB1 HB GE101.out⟩⟩
          ·
           rw [if_neg c29] at H; exact absurd H (by simp)
      ·
       rw [if_neg c16] at H; have c16b0 := DL c16; clear c16; obtain rfl := Option.some.inj H; obtain ⟨Ao32, co32, eo32⟩ := Kd.R_slice HO_5.out; subst eo32; go_wp2; go_ret; exact ⟨_, by first | rfl | (simp [errW_none, errW_some] <;> rfl) | (simp [*, errW_none, errW_some] <;> rfl), by (with_reducible repeat (first | apply Kd.R_alloc | apply Kd.R_drewN | apply Kd.R_drew)); exact HO_5.out, uB1 HB GE101.out⟩

end Go.Proofs.Ytblpdfgplifccaa.P
