-- written for this claim by a program (wip/gen/myprint.py over the print tool). Not trusted: Lean checks it.
import Derived.Test.YtcklifkbodmoaaaPx0
import Derived.Test.YtcklifkbodmoaaaHUp
import Derived.Test.YtcklifkbodmoaaaGBase
import Derived.Test.YtcklifkbodmoaaaPFSpecL6Ok
import Derived.Test.YtcklifkbodmoaaaPFSpecL6All
import Derived.Test.YtcklifkbodmoaaaGStairS
namespace Go.Proofs.Ytcklifkbodmoaaa.P
open Go.RowKit Go.Proofs.YtcklifkbodmoaaaV.PrintWords Go.Proofs.YtcklifkbodmoaaaV.PrintLast
set_option linter.unusedVariables false
set_option linter.unusedSimpArgs false

/-! ### spec_PlanStair: function 50 -/
mutual
def spec_PlanStair.j0 : Nat → Int → Int → List (S66) → Bool → Int → Int → List (S32) → Option ((List (S66)) × Bool)
 | 0, _, _, _, _, _, _, _ => none
 | k + 1, x1, x2, x8, x35, x102000, x102001, x102002 => if x35 = true then (some (([] : List (S66)), false)) else (spec_PlanStair.l0 k x1 x2 x8 0 x102000 x102001 x102002)
def spec_PlanStair.l0 : Nat → Int → Int → List (S66) → Int → Int → Int → List (S32) → Option ((List (S66)) × Bool)
 | 0, _, _, _, _, _, _, _ => none
 | k + 1, x1, x2, x8, x9, x102000, x102001, x102002 => if x9 ≤ 199 then ((spec_l6All.f k x102000 x102001 x102002 x1 x9).bind fun t108 => (if 0 ≤ x2 then (if x2 < (t108.length : Int) then (if (rd t108 x2) < 99999 then (if x8.length < 8796093022208 then (spec_PlanStair.l0 k x1 x2 (x8 ++ [(⟨x9, rd t108 x2⟩ : S66)]) (wrap64 (x9 + 1)) x102000 x102001 x102002) else (none)) else (spec_PlanStair.l0 k x1 x2 x8 (wrap64 (x9 + 1)) x102000 x102001 x102002)) else (none)) else (none))) else ((spec_StairOf.f k x8).bind fun bt115 => (some (bt115.1, bt115.2)))
end
def spec_PlanStair.f (k : Nat) (a0_0 : Int) (a0_1 : Int) (l0_2 : List (S32)) (a1 : Int) (a2 : Int) : Option ((List (S66)) × Bool) := (some (([] : List (S66)) : List (S66))).bind fun y102 => ((spec_l6Ok.f k a0_0 a0_1 l0_2).bind fun t105 => (if t105 = true then ((spec_l1In.f a1 0 (wrap64 (a0_0 - 1))).bind fun t106 => (if t106 = true then ((spec_l1In.f a2 0 (wrap64 (a0_0 - 1))).bind fun t107 => (if t107 = true then (spec_PlanStair.j0 k a1 a2 y102 (a1 == a2) a0_0 a0_1 l0_2) else (spec_PlanStair.j0 k a1 a2 y102 true a0_0 a0_1 l0_2))) else (spec_PlanStair.j0 k a1 a2 y102 true a0_0 a0_1 l0_2))) else (spec_PlanStair.j0 k a1 a2 y102 true a0_0 a0_1 l0_2)))
set_option maxHeartbeats 8000000 in
set_option maxRecDepth 100000 in
theorem spec_PlanStair.calls (k : Nat) (a0_0 : Int) (a0_1 : Int) (A0_2 : Option Addr) (c0_2 : Nat) (l0_2 : List (S32)) (a1 : Int) (a2 : Int) (r1 : List (S66)) (r2 : Bool) (w : World) (hr0_2 : Kd.C k32 w A0_2 l0_2.length l0_2) (hc0_2 : l0_2.length ≤ c0_2) (h : spec_PlanStair.f k a0_0 a0_1 l0_2 a1 a2 = some (r1, r2)) :
  Calls Try.prog 50 #[.agg #[.int .i64 a0_0, .int .i64 a0_1, .slice A0_2 l0_2.length c0_2], .int .i64 a1, .int .i64 a2] w fun e w' => ∃ v0_ : Value, e = .returned (.tuple #[v0_, .bool r2]) ∧ Kd.R k66 66 w' w.heap.size (fun _ => True) v0_ r1 ∧ Below w.heap.size w w' := by
 have hu25 := Try.underlying25
 have hu66 := Try.underlying66
 have HR0_2 := Aside0.mk hr0_2
 have HC0_2 := Aside0.mk hc0_2
 clear hr0_2 hc0_2
 have HB := Aside0.mk (Below.refl w.heap.size w)
 have H : ((some (([] : List (S66)) : List (S66))).bind fun y102 => ((spec_l6Ok.f k a0_0 a0_1 l0_2).bind fun t105 => (if t105 = true then ((spec_l1In.f a1 0 (wrap64 (a0_0 - 1))).bind fun t106 => (if t106 = true then ((spec_l1In.f a2 0 (wrap64 (a0_0 - 1))).bind fun t107 => (if t107 = true then (spec_PlanStair.j0 k a1 a2 y102 (a1 == a2) a0_0 a0_1 l0_2) else (spec_PlanStair.j0 k a1 a2 y102 true a0_0 a0_1 l0_2))) else (spec_PlanStair.j0 k a1 a2 y102 true a0_0 a0_1 l0_2))) else (spec_PlanStair.j0 k a1 a2 y102 true a0_0 a0_1 l0_2)))) = some (r1, r2) := h
 clear h
 obtain ⟨y102, hy102⟩ : ∃ y_ : List (S66), y_ = (([] : List (S66))) := ⟨_, rfl⟩
 replace H : ((spec_l6Ok.f k a0_0 a0_1 l0_2).bind fun t105 => (if t105 = true then ((spec_l1In.f a1 0 (wrap64 (a0_0 - 1))).bind fun t106 => (if t106 = true then ((spec_l1In.f a2 0 (wrap64 (a0_0 - 1))).bind fun t107 => (if t107 = true then (spec_PlanStair.j0 k a1 a2 y102 (a1 == a2) a0_0 a0_1 l0_2) else (spec_PlanStair.j0 k a1 a2 y102 true a0_0 a0_1 l0_2))) else (spec_PlanStair.j0 k a1 a2 y102 true a0_0 a0_1 l0_2))) else (spec_PlanStair.j0 k a1 a2 y102 true a0_0 a0_1 l0_2))) = some (r1, r2) := by first | (rw [hy102]; with_reducible exact H) | (have H2_ := (Option.bind_some _ _).symm.trans H; rw [hy102]; with_reducible exact H2_) | (have H2_ := (Option.bind_some _ _).symm.trans H; with_reducible exact H2_) | with_reducible exact H | (rw [hy102]; exact H) | exact H
 have Ny102 := Aside0.mk hy102
 clear hy102
 have HC4 := Aside0.mk H
 clear H
 go_enter Try.func50, Try.ntmps50
 go_upto_region 2 with (first | ((with_reducible refine gate_dst (N := 3) rfl ?_); refine be (cs := #[.int .i64 a0_0, .int .i64 a0_1, .slice A0_2 l0_2.length c0_2]) (t := 25) ?_; intro gb101 hg w5 hbox hb; have BK101 := Aside0.mk (hbox); have GW101 := gz w hg (uB0 HB); have GE101 := gz w hg (uB0 HB); replace HB := Aside0.mk (below_step (uB0 HB) hb); clear hb hbox hg) | ((with_reducible refine gate_dst (N := 11) rfl ?_); refine Kd.R_lit k66 _ 66 ?hg (N := 11) ?hd (xs := ([] : List (S66))) (inner := []) (ok := fun _ => True) (okp := fun _ => True) ?hr ?hp (fun _ hk => hk) trivial (Below.refl _ _) (Nat.le_refl _) (by simp) ?_; (case hd => rfl); (case hg => rfl); (case hr => first | (go_simp; done) | (go_simp; rfl)); (case hp => exact (Reps.none _ _)); intro v103 w6 ho7 hb hg_ hnew_; clear hg_ hnew_; (first | rw [← Ny102.out] at ho7 | (simp only [Int.reduceToNat] at ho7; rw [← Ny102.out] at ho7)); have HO104 := Aside0.mk (Kd.R_lower ho7 (below_size (uB1 HB GE101.out))); replace BK101 := bb BK101 hb; replace HB := Aside0.mk (below_step (uB1 HB GE101.out) hb); clear hb ho7))
 (try simp only [Act.put, List.setIfInBounds_toArray, List.set_cons_zero, List.set_cons_succ])
 go_cut [35] (fun v35 wc => ∃ (kq : Nat) (x35_3 : Bool), v35 = .bool x35_3 ∧ Aside0 (spec_PlanStair.j0 kq a1 a2 y102 x35_3 a0_0 a0_1 l0_2 = some (r1, r2)) ∧ Aside0 (kq ≤ k) ∧ Aside0 (Kd.R k66 66 wc w.heap.size (fun _ => True) v103 y102) ∧ Aside0 (wc.heap[gb101]? = some (.cells #[.int .i64 a0_0, .int .i64 a0_1, (.slice A0_2 l0_2.length c0_2)] 25 (0, 0))) ∧ Aside0 (Below w.heap.size w wc))
 case first =>
  have H := HC4.out; clear HC4; replace H := Option.bind_eq_some_iff.mp H; obtain ⟨t105, A80, H⟩ := H; replace H : (if t105 = true then ((spec_l1In.f a1 0 (wrap64 (a0_0 - 1))).bind fun t106 => (if t106 = true then ((spec_l1In.f a2 0 (wrap64 (a0_0 - 1))).bind fun t107 => (if t107 = true then (spec_PlanStair.j0 k a1 a2 y102 (a1 == a2) a0_0 a0_1 l0_2) else (spec_PlanStair.j0 k a1 a2 y102 true a0_0 a0_1 l0_2))) else (spec_PlanStair.j0 k a1 a2 y102 true a0_0 a0_1 l0_2))) else (spec_PlanStair.j0 k a1 a2 y102 true a0_0 a0_1 l0_2)) = some (r1, r2) := H; have A8 := Aside0.mk A80; clear A80; by_cases c9 : t105 = true
  ·
   subst c9; rw [if_pos rfl] at H; replace H := Option.bind_eq_some_iff.mp H; obtain ⟨t106, A100, H⟩ := H; replace H : (if t106 = true then ((spec_l1In.f a2 0 (wrap64 (a0_0 - 1))).bind fun t107 => (if t107 = true then (spec_PlanStair.j0 k a1 a2 y102 (a1 == a2) a0_0 a0_1 l0_2) else (spec_PlanStair.j0 k a1 a2 y102 true a0_0 a0_1 l0_2))) else (spec_PlanStair.j0 k a1 a2 y102 true a0_0 a0_1 l0_2)) = some (r1, r2) := H; have A10 := Aside0.mk A100; clear A100; by_cases c11 : t106 = true
   ·
    subst c11; rw [if_pos rfl] at H; replace H := Option.bind_eq_some_iff.mp H; obtain ⟨t107, A120, H⟩ := H; replace H : (if t107 = true then (spec_PlanStair.j0 k a1 a2 y102 (a1 == a2) a0_0 a0_1 l0_2) else (spec_PlanStair.j0 k a1 a2 y102 true a0_0 a0_1 l0_2)) = some (r1, r2) := H; have A12 := Aside0.mk A120; clear A120; by_cases c13 : t107 = true
    ·
     subst c13; rw [if_pos rfl] at H; have H' := Aside0.mk H; clear H; obtain ⟨hcz14_0, hcz14_1, hcz14_2, hfz14_0, hfz14_1, hfz14_2⟩ := bc3 BK101; go_wp2_with (first | ((with_reducible refine gate_callee (f := 65) rfl ?_); refine goesL_ (some 13) rfl rfl Try.func65 (by kernel_rfl) rfl #[.agg #[.int .i64 a0_0, .int .i64 a0_1, .slice A0_2 l0_2.length c0_2]] rfl ul ?_; (with_reducible refine (spec_l6Ok.calls k a0_0 a0_1 _ _ l0_2 true _ ?side1 ?side2 A8.out).mono ?_); (case side1 => exact uC HR0_2 HB); (case side2 => exact HC0_2.out); rintro e w15 ⟨rfl, hb⟩; refine ⟨_, rfl, ?_⟩; replace HO104 := Aside0.mk (Kd.R_below (ur HO104) hb); replace BK101 := bb BK101 hb; replace HB := Aside0.mk (below_step (uB1 HB GE101.out) hb); (try clear hb); (try clear hb2); (try clear hk); (try clear hi); obtain ⟨hcz16_0, hcz16_1, hcz16_2, hfz16_0, hfz16_1, hfz16_2⟩ := bc3 BK101) | (go_at_call 66; (with_reducible refine (spec_l1In.calls a1 0 (wrap64 (a0_0 - 1)) true _ A10.out).mono ?_); rintro e w' ⟨rfl, ⟨nd, rfl⟩⟩) | (go_at_call 66; (with_reducible refine (spec_l1In.calls a2 0 (wrap64 (a0_0 - 1)) true _ A12.out).mono ?_); rintro e w' ⟨rfl, ⟨nd, rfl⟩⟩)); go_meet
     case rel => exact ⟨_, ((a1 == a2)), ue, H', ⟨by first | omega | exact Nat.le_refl _⟩, ⟨ur HO104⟩, ⟨ub BK101⟩, ⟨uB1 HB GE101.out⟩⟩
    ·
     replace c13 := Bool.eq_false_iff.mpr c13; subst c13; rw [if_neg (show ¬ (false = true) by decide)] at H; have H' := Aside0.mk H; clear H; obtain ⟨hcz17_0, hcz17_1, hcz17_2, hfz17_0, hfz17_1, hfz17_2⟩ := bc3 BK101; go_wp2_with (first | ((with_reducible refine gate_callee (f := 65) rfl ?_); refine goesL_ (some 13) rfl rfl Try.func65 (by kernel_rfl) rfl #[.agg #[.int .i64 a0_0, .int .i64 a0_1, .slice A0_2 l0_2.length c0_2]] rfl ul ?_; (with_reducible refine (spec_l6Ok.calls k a0_0 a0_1 _ _ l0_2 true _ ?side1 ?side2 A8.out).mono ?_); (case side1 => exact uC HR0_2 HB); (case side2 => exact HC0_2.out); rintro e w18 ⟨rfl, hb⟩; refine ⟨_, rfl, ?_⟩; replace HO104 := Aside0.mk (Kd.R_below (ur HO104) hb); replace BK101 := bb BK101 hb; replace HB := Aside0.mk (below_step (uB1 HB GE101.out) hb); (try clear hb); (try clear hb2); (try clear hk); (try clear hi); obtain ⟨hcz19_0, hcz19_1, hcz19_2, hfz19_0, hfz19_1, hfz19_2⟩ := bc3 BK101) | (go_at_call 66; (with_reducible refine (spec_l1In.calls a1 0 (wrap64 (a0_0 - 1)) true _ A10.out).mono ?_); rintro e w' ⟨rfl, ⟨nd, rfl⟩⟩) | (go_at_call 66; (with_reducible refine (spec_l1In.calls a2 0 (wrap64 (a0_0 - 1)) false _ A12.out).mono ?_); rintro e w' ⟨rfl, ⟨nd, rfl⟩⟩)); go_meet
     case rel => exact ⟨_, (true), ue, H', ⟨by first | omega | exact Nat.le_refl _⟩, ⟨ur HO104⟩, ⟨ub BK101⟩, ⟨uB1 HB GE101.out⟩⟩
   ·
    replace c11 := Bool.eq_false_iff.mpr c11; subst c11; rw [if_neg (show ¬ (false = true) by decide)] at H; have H' := Aside0.mk H; clear H; obtain ⟨hcz20_0, hcz20_1, hcz20_2, hfz20_0, hfz20_1, hfz20_2⟩ := bc3 BK101; go_wp2_with (first | ((with_reducible refine gate_callee (f := 65) rfl ?_); refine goesL_ (some 13) rfl rfl Try.func65 (by kernel_rfl) rfl #[.agg #[.int .i64 a0_0, .int .i64 a0_1, .slice A0_2 l0_2.length c0_2]] rfl ul ?_; (with_reducible refine (spec_l6Ok.calls k a0_0 a0_1 _ _ l0_2 true _ ?side1 ?side2 A8.out).mono ?_); (case side1 => exact uC HR0_2 HB); (case side2 => exact HC0_2.out); rintro e w21 ⟨rfl, hb⟩; refine ⟨_, rfl, ?_⟩; replace HO104 := Aside0.mk (Kd.R_below (ur HO104) hb); replace BK101 := bb BK101 hb; replace HB := Aside0.mk (below_step (uB1 HB GE101.out) hb); (try clear hb); (try clear hb2); (try clear hk); (try clear hi); obtain ⟨hcz22_0, hcz22_1, hcz22_2, hfz22_0, hfz22_1, hfz22_2⟩ := bc3 BK101) | (go_at_call 66; (with_reducible refine (spec_l1In.calls a1 0 (wrap64 (a0_0 - 1)) false _ A10.out).mono ?_); rintro e w' ⟨rfl, ⟨nd, rfl⟩⟩)); go_meet
    case rel => exact ⟨_, (true), ue, H', ⟨by first | omega | exact Nat.le_refl _⟩, ⟨ur HO104⟩, ⟨ub BK101⟩, ⟨uB1 HB GE101.out⟩⟩
  ·
   replace c9 := Bool.eq_false_iff.mpr c9; subst c9; rw [if_neg (show ¬ (false = true) by decide)] at H; have H' := Aside0.mk H; clear H; obtain ⟨hcz23_0, hcz23_1, hcz23_2, hfz23_0, hfz23_1, hfz23_2⟩ := bc3 BK101; go_wp2_with (first | ((with_reducible refine gate_callee (f := 65) rfl ?_); refine goesL_ (some 13) rfl rfl Try.func65 (by kernel_rfl) rfl #[.agg #[.int .i64 a0_0, .int .i64 a0_1, .slice A0_2 l0_2.length c0_2]] rfl ul ?_; (with_reducible refine (spec_l6Ok.calls k a0_0 a0_1 _ _ l0_2 false _ ?side1 ?side2 A8.out).mono ?_); (case side1 => exact uC HR0_2 HB); (case side2 => exact HC0_2.out); rintro e w24 ⟨rfl, hb⟩; refine ⟨_, rfl, ?_⟩; replace HO104 := Aside0.mk (Kd.R_below (ur HO104) hb); replace BK101 := bb BK101 hb; replace HB := Aside0.mk (below_step (uB1 HB GE101.out) hb); (try clear hb); (try clear hb2); (try clear hk); (try clear hi))); go_meet
   case rel => exact ⟨_, (true), ue, H', ⟨by first | omega | exact Nat.le_refl _⟩, ⟨ur HO104⟩, ⟨ub BK101⟩, ⟨uB1 HB GE101.out⟩⟩
 case rest =>
  clear HC4; try clear c1
  try clear p2
  try clear c5
  try clear c6
  try clear p6
  try clear c9
  try clear c11
  try clear c13
  try clear hcz14_0 hcz14_1 hcz14_2
  try clear hcz16_0 hcz16_1 hcz16_2
  try clear hcz17_0 hcz17_1 hcz17_2
  try clear hcz19_0 hcz19_1 hcz19_2
  try clear hcz20_0 hcz20_1 hcz20_2
  try clear hcz22_0 hcz22_1 hcz22_2
  try clear hcz23_0 hcz23_1 hcz23_2
  try clear hfz14_0 hfz14_1 hfz14_2
  try clear hfz16_0 hfz16_1 hfz16_2
  try clear hfz17_0 hfz17_1 hfz17_2
  try clear hfz19_0 hfz19_1 hfz19_2
  try clear hfz20_0 hfz20_1 hfz20_2
  try clear hfz22_0 hfz22_1 hfz22_2
  try clear hfz23_0 hfz23_1 hfz23_2
  obtain ⟨kq, x35_3, rfl, HA, HJ3, HO_8, BK101, HB⟩ := hcut
  cases kq with
  | zero => exact absurd HA.out (by simp [spec_PlanStair.j0])
  | succ kj3 =>
   have H := HA.out; clear HA; simp only [spec_PlanStair.j0] at H; by_cases c25 : x35_3 = true
   ·
    subst c25; rw [if_pos rfl] at H; simp only [Option.some.injEq, Prod.mk.injEq] at H; obtain ⟨rfl, rfl⟩ := H; go_wp2; go_ret2; exact ⟨_, by first | rfl | (simp [errW_none, errW_some] <;> rfl) | (simp [*, errW_none, errW_some] <;> rfl), by first | exact Kd.R_nil _ _ _ _ _ | exact Kd.N_nil _ _ _ _ _ | exact Kd.V_nil _ _ _ _ _ | exact Kd.Q_nil _ _ _ _ _ | exact Kd.S_nil _ _ _ _ _, uB1 HB GE101.out⟩
   ·
    replace c25 := Bool.eq_false_iff.mpr c25; subst c25; rw [if_neg (show ¬ (false = true) by decide)] at H; have H' := Aside0.mk H; clear H; go_wp2; go_loopg [8, 9] kj3 (fun kq v8 v9 w' => ∃ (x8_2 : List (S66)) (x9_2 : Int), v9 = .int .i64 x9_2 ∧ Aside0 (spec_PlanStair.l0 kq a1 a2 x8_2 x9_2 a0_0 a0_1 l0_2 = some (r1, r2)) ∧ Aside0 (kq ≤ kj3) ∧ Aside0 (Kd.R k66 66 w' w.heap.size (fun _ => True) v8 x8_2) ∧ Aside0 (w'.heap[gb101]? = some (.cells #[.int .i64 a0_0, .int .i64 a0_1, (.slice A0_2 l0_2.length c0_2)] 25 (0, 0))) ∧ Aside0 (Below w.heap.size w w'))
    case atStart => exact ⟨(y102), (0), ue, H', ⟨Nat.le_refl _⟩, ⟨ur HO_8⟩, ⟨ub BK101⟩, ⟨uB1 HB GE101.out⟩⟩
    case round =>
     clear H'; try clear c1
     try clear c2
     try clear p2
     try clear c5
     try clear c6
     try clear p6
     try clear c9
     try clear c11
     try clear c13
     try clear c25
     try clear hcz14_0 hcz14_1 hcz14_2
     try clear hcz16_0 hcz16_1 hcz16_2
     try clear hcz17_0 hcz17_1 hcz17_2
     try clear hcz19_0 hcz19_1 hcz19_2
     try clear hcz20_0 hcz20_1 hcz20_2
     try clear hcz22_0 hcz22_1 hcz22_2
     try clear hcz23_0 hcz23_1 hcz23_2
     try clear hfz14_0 hfz14_1 hfz14_2
     try clear hfz16_0 hfz16_1 hfz16_2
     try clear hfz17_0 hfz17_1 hfz17_2
     try clear hfz19_0 hfz19_1 hfz19_2
     try clear hfz20_0 hfz20_1 hfz20_2
     try clear hfz22_0 hfz22_1 hfz22_2
     try clear hfz23_0 hfz23_1 hfz23_2
     try clear p2
     try clear p6
     obtain ⟨x8_2, x9_2, rfl, HA, HK2, HO_8, BK101, HB⟩ := hrel
     cases gk with
     | zero => exact absurd HA.out (by simp [spec_PlanStair.l0])
     | succ k2 =>
      have H := HA.out; clear HA; simp only [spec_PlanStair.l0] at H; by_cases c26 : x9_2 ≤ 199
      ·
       rw [if_pos c26] at H; have c26b0 := de c26; clear c26; replace H := Option.bind_eq_some_iff.mp H; obtain ⟨t108, A270, H⟩ := H; replace H : (if 0 ≤ a2 then (if a2 < (t108.length : Int) then (if (rd t108 a2) < 99999 then (if x8_2.length < 8796093022208 then (spec_PlanStair.l0 k2 a1 a2 (x8_2 ++ [(⟨x9_2, rd t108 a2⟩ : S66)]) (wrap64 (x9_2 + 1)) a0_0 a0_1 l0_2) else (none)) else (spec_PlanStair.l0 k2 a1 a2 x8_2 (wrap64 (x9_2 + 1)) a0_0 a0_1 l0_2)) else (none)) else (none)) = some (r1, r2) := H; have A27 := Aside0.mk A270; clear A270; by_cases c28 : 0 ≤ a2
       ·
        rw [if_pos c28] at H; have c28b0 := de c28; clear c28; by_cases c29 : a2 < (t108.length : Int)
        ·
         rw [if_pos c29] at H; have c29b0 := dl c29; clear c29; have HH_ := Aside0.mk H; clear H; obtain ⟨hcz30_0, hcz30_1, hcz30_2, hfz30_0, hfz30_1, hfz30_2⟩ := bc3 BK101; go_upto_region 8 with (first | ((with_reducible refine gate_callee (f := 67) rfl ?_); refine goesL_ (some 43) rfl rfl Try.func67 (by kernel_rfl) rfl #[.agg #[.int .i64 a0_0, .int .i64 a0_1, .slice A0_2 l0_2.length c0_2], .int .i64 a1, .int .i64 x9_2] rfl ul ?_; (with_reducible refine (spec_l6All.calls k2 a0_0 a0_1 _ _ l0_2 a1 x9_2 t108 _ ?side1 ?side2 A27.out).mono ?_); (case side1 => exact uC HR0_2 HB); (case side2 => exact HC0_2.out); rintro e w31 ⟨v109, rfl, ho0, hb⟩; refine ⟨_, rfl, ?_⟩; replace HO_8 := Aside0.mk (Kd.R_below (ur HO_8) hb); have HO110 := Aside0.mk (Kd.R_lower ho0 (below_size (uB1 HB GE101.out))); replace BK101 := bb BK101 hb; replace HB := Aside0.mk (below_step (uB1 HB GE101.out) hb); (try clear hb); (try clear hb2); (try clear hk); (try clear hi); (try clear ho0); obtain ⟨Ao32, co32, eo32⟩ := Kd.R_slice HO110.out; subst eo32; have p111 : 0 ≤ (a2 : Int) := ua; have q111 : a2 < (t108.length : Int) := ua; obtain ⟨ad111, e111, hx111_0⟩ := Kd.at_int (Kd.R_reads' HO110.out).2.2 a2 p111 q111; cases e111; replace p111 := eq_true p111; replace q111 := eq_true q111))
         have H := HH_.out; clear HH_; by_cases c33 : (rd t108 a2) < 99999
         ·
          rw [if_pos c33] at H; have c33b0 := dl c33; clear c33; by_cases c34 : x8_2.length < 8796093022208
          ·
           rw [if_pos c34] at H; have LMc34 := Aside0.mk c34; clear c34; obtain ⟨y112, hy112⟩ : ∃ y_ : List (S66), y_ = (x8_2 ++ [(⟨x9_2, rd t108 a2⟩ : S66)]) := ⟨_, rfl⟩
           replace H : (spec_PlanStair.l0 k2 a1 a2 y112 (wrap64 (x9_2 + 1)) a0_0 a0_1 l0_2) = some (r1, r2) := by first | (rw [hy112]; with_reducible exact H) | (have H2_ := (Option.bind_some _ _).symm.trans H; rw [hy112]; with_reducible exact H2_) | (have H2_ := (Option.bind_some _ _).symm.trans H; with_reducible exact H2_) | with_reducible exact H | (rw [hy112]; exact H) | exact H
           have Ny112 := Aside0.mk hy112; clear hy112; have H' := Aside0.mk H; clear H; go_wp2_with (first | ((with_reducible refine gate_builtin (b := .append) (xs := #[.tmp 49, .tmp 53]) rfl ?_); at_builtin; refine Kd.R_append k66 (w0 := w) w.heap.size rfl (.tmp 49) (.tmp 53) 59 66 (.agg #[(.int .i64 0), (.int .i64 0)]) 16 rfl Try.underlying59 info66 rfl (by decide) (by omega) u8 x8_2 (⟨x9_2, rd t108 a2⟩ : S66) [.int .i64 x9_2, .int .i64 (rd t108 a2)] (fun _ => True) (fun _ => False) rfl rfl ?aP (fun _ hk => hk.elim) ?aF ?aO ?aB ?aS ?aL ?_; (case aP => exact k66_mkM _ _ _ (⟨x9_2, rd t108 a2⟩ : S66)); (case aB => exact (uB1 HB GE101.out)); (case aF => exact (fun _ _ => trivial)); (case aO => exact (ur HO_8)); (case aS => exact (below_size (uB1 HB GE101.out))); (case aL => have := LMc34.out; omega); intro v113 w33 ho hb hg hat; rw [← Ny112.out] at ho; replace BK101 := bg BK101 hg (Kd.R_ne HO_8.out BK101.out (by decide)); replace HO110 := Aside0.mk (Kd.R_over' (ur HO110) (Kd.R_typed (ur HO_8)) (by decide) hg); replace HB := Aside0.mk (hb); have HO114 := Aside0.mk (ho); clear HO_8; clear ho hb hg hat)); go_roundg k2
           case measure => have := HJ3.out; have := HK2.out; omega
           case rel => exact ⟨(y112), (wrap64 (x9_2 + 1)), ue, H', ⟨by have := HJ3.out; have := HK2.out; omega⟩, ⟨ur HO114⟩, ⟨ub BK101⟩, ⟨uB1 HB GE101.out⟩⟩
          ·
           rw [if_neg c34] at H; exact absurd H (by simp)
         ·
          rw [if_neg c33] at H; have c33b0 := DL c33; clear c33; have H' := Aside0.mk H; clear H; go_wp2; go_roundg k2
          case measure => have := HJ3.out; have := HK2.out; omega
          case rel => exact ⟨(x8_2), (wrap64 (x9_2 + 1)), ue, H', ⟨by have := HJ3.out; have := HK2.out; omega⟩, ⟨ur HO_8⟩, ⟨ub BK101⟩, ⟨uB1 HB GE101.out⟩⟩
        ·
         rw [if_neg c29] at H; exact absurd H (by simp)
       ·
        rw [if_neg c28] at H; exact absurd H (by simp)
      ·
       rw [if_neg c26] at H; have c26b0 := DE c26; clear c26; replace H := Option.bind_eq_some_iff.mp H; obtain ⟨⟨t115, t116⟩, A350, H⟩ := H; replace H : (some (t115, t116)) = some (r1, r2) := H; have A35 := Aside0.mk A350; clear A350; simp only [Option.some.injEq, Prod.mk.injEq] at H; obtain ⟨rfl, rfl⟩ := H; obtain ⟨Ao36, co36, eo36⟩ := Kd.R_slice HO_8.out; subst eo36; go_wp2_with (first | ((with_reducible refine gate_callee (f := 86) rfl ?_); refine goesL_ (some 56) rfl rfl Try.func86 (by kernel_rfl) rfl #[.slice Ao36 x8_2.length co36] rfl ul ?_; (with_reducible refine (spec_StairOf.calls k2 _ _ x8_2 t115 t116 _ ?side1 ?side2 A35.out).mono ?_); (case side1 => exact uD (Kd.R_reads' HO_8.out).2.2); (case side2 => exact (Kd.R_reads' HO_8.out).2.1); rintro e w37 ⟨v117, rfl, ho0, hb⟩; refine ⟨_, rfl, ?_⟩; have HO118 := Aside0.mk (Kd.R_lower (Kd.R_new' ho0 (Kd.R_lt (ur HO_8))) (below_size (uB1 HB GE101.out))); replace HO_8 := Aside0.mk (Kd.R_elder' (ur HO_8) (Kd.R_base ho0) hb); replace BK101 := bb BK101 hb; replace HB := Aside0.mk (below_step (uB1 HB GE101.out) hb); (try clear hb); (try clear hb2); (try clear hk); (try clear hi); (try clear ho0))); go_ret2; exact ⟨_, by first | rfl | (simp [errW_none, errW_some] <;> rfl) | (simp [*, errW_none, errW_some] <;> rfl), by (with_reducible repeat (first | apply Kd.R_alloc | apply Kd.R_drewN | apply Kd.R_drew)); exact Kd.R_mono HO118.out (fun _ hk => trivial), uB1 HB GE101.out⟩

end Go.Proofs.Ytcklifkbodmoaaa.P
