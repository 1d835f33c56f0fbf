-- written for this claim by a program (wip/gen/myprint.py over the print tool). Not trusted: Lean checks it.
import Derived.Test.YtblpdfgplifccaaPx0
import Derived.Test.YtblpdfgplifccaaHUp
import Derived.Test.YtblpdfgplifccaaGBase
import Derived.Test.YtblpdfgplifccaaPFSpecL3All
import Derived.Test.YtblpdfgplifccaaGDist
namespace Go.Proofs.Ytblpdfgplifccaa.P
open Go.RowKit Go.Proofs.YtblpdfgplifccaaV.PrintWords Go.Proofs.YtblpdfgplifccaaV.PrintLast
set_option linter.unusedVariables false
set_option linter.unusedSimpArgs false

/-! ### spec_ManyAll: function 42 -/
mutual
def spec_ManyAll.j0 : Nat → List Int → List Int → List (List Int) → Bool → Int → List (S33) → Option ((List (List Int)))
 | 0, _, _, _, _, _, _ => none
 | k + 1, x1, x2, x7, x27, x102000, x102001 => if x27 = true then (some ([] : List (List Int))) else (spec_ManyAll.l0 k x1 x2 x7 0 x102000 x102001)
def spec_ManyAll.l0 : Nat → List Int → List Int → List (List Int) → Int → Int → List (S33) → Option ((List (List Int)))
 | 0, _, _, _, _, _, _ => none
 | k + 1, x1, x2, x7, x8, x102000, x102001 => if x8 < (x1.length : Int) then (if 0 ≤ x8 then ((spec_l3All.f k x102000 x102001 (rd x1 x8)).bind fun t109 => (spec_ManyAll.l1 k x1 x2 x7 x8 t109 (([] : List Int)) 0 x102000 x102001)) else (none)) else (some x7)
def spec_ManyAll.l1 : Nat → List Int → List Int → List (List Int) → Int → List Int → List Int → Int → Int → List (S33) → Option ((List (List Int)))
 | 0, _, _, _, _, _, _, _, _, _ => none
 | k + 1, x1, x2, x7, x8, x9, x10, x11, x102000, x102001 => if x11 < (x2.length : Int) then (if 0 ≤ x11 then (if 0 ≤ (rd x2 x11) then (if (rd x2 x11) < (x9.length : Int) then (if x10.length < 17592186044416 then (spec_ManyAll.l1 k x1 x2 x7 x8 x9 (x10 ++ [rd x9 (rd x2 x11)]) (wrap64 (x11 + 1)) x102000 x102001) else (none)) else (none)) else (none)) else (none)) else (if x7.length < 5864062014805 then (spec_ManyAll.l0 k x1 x2 (x7 ++ [x10]) (wrap64 (x8 + 1)) x102000 x102001) else (none))
end
def spec_ManyAll.f (k : Nat) (a0_0 : Int) (l0_1 : List (S33)) (l1 : List Int) (l2 : List Int) : Option ((List (List Int))) := (some (([] : List (List Int)) : List (List Int))).bind fun y102 => ((spec_l1Ok.f k a0_0 l0_1).bind fun t105 => (if t105 = true then ((spec_l11Nodes.f k a0_0 l0_1 l1).bind fun t106 => (if t106 = true then ((spec_l11Nodes.f k a0_0 l0_1 l2).bind fun t107 => (spec_ManyAll.j0 k l1 l2 y102 (!t107) a0_0 l0_1)) else (spec_ManyAll.j0 k l1 l2 y102 true a0_0 l0_1))) else (spec_ManyAll.j0 k l1 l2 y102 true a0_0 l0_1)))
set_option maxHeartbeats 8000000 in
set_option maxRecDepth 100000 in
theorem spec_ManyAll.calls (k : Nat) (a0_0 : Int) (A0_1 : Option Addr) (c0_1 : Nat) (l0_1 : List (S33)) (A1 : Option Addr) (c1 : Nat) (l1 : List Int) (A2 : Option Addr) (c2 : Nat) (l2 : List Int) (r : List (List Int)) (w : World) (hr0_1 : Kd.C k33 w A0_1 l0_1.length l0_1) (hc0_1 : l0_1.length ≤ c0_1) (hr1 : Kd.C (Kd.int .i64) w A1 l1.length l1) (hc1 : l1.length ≤ c1) (hr2 : Kd.C (Kd.int .i64) w A2 l2.length l2) (hc2 : l2.length ≤ c2) (h : spec_ManyAll.f k a0_0 l0_1 l1 l2 = some r) :
  Calls Try.prog 42 #[.agg #[.int .i64 a0_0, .slice A0_1 l0_1.length c0_1], .slice A1 l1.length c1, .slice A2 l2.length c2] w fun e w' => ∃ v0_ : Value, e = .returned (v0_) ∧ Kd.S (Kd.slice 3 (Kd.int .i64)) 26 w' w.heap.size (fun _ => True) v0_ r ∧ Below w.heap.size w w' := by
 have hu25 := Try.underlying25
 have HR0_1 := Aside0.mk hr0_1
 have HC0_1 := Aside0.mk hc0_1
 clear hr0_1 hc0_1
 have HR1 := Aside0.mk hr1
 have HC1 := Aside0.mk hc1
 clear hr1 hc1
 have HR2 := Aside0.mk hr2
 have HC2 := Aside0.mk hc2
 clear hr2 hc2
 have HB := Aside0.mk (Below.refl w.heap.size w)
 have H : ((some (([] : List (List Int)) : List (List Int))).bind fun y102 => ((spec_l1Ok.f k a0_0 l0_1).bind fun t105 => (if t105 = true then ((spec_l11Nodes.f k a0_0 l0_1 l1).bind fun t106 => (if t106 = true then ((spec_l11Nodes.f k a0_0 l0_1 l2).bind fun t107 => (spec_ManyAll.j0 k l1 l2 y102 (!t107) a0_0 l0_1)) else (spec_ManyAll.j0 k l1 l2 y102 true a0_0 l0_1))) else (spec_ManyAll.j0 k l1 l2 y102 true a0_0 l0_1)))) = some r := h
 clear h
 obtain ⟨y102, hy102⟩ : ∃ y_ : List (List Int), y_ = (([] : List (List Int))) := ⟨_, rfl⟩
 replace H : ((spec_l1Ok.f k a0_0 l0_1).bind fun t105 => (if t105 = true then ((spec_l11Nodes.f k a0_0 l0_1 l1).bind fun t106 => (if t106 = true then ((spec_l11Nodes.f k a0_0 l0_1 l2).bind fun t107 => (spec_ManyAll.j0 k l1 l2 y102 (!t107) a0_0 l0_1)) else (spec_ManyAll.j0 k l1 l2 y102 true a0_0 l0_1))) else (spec_ManyAll.j0 k l1 l2 y102 true a0_0 l0_1))) = some r := by first | (rw [hy102]; with_reducible exact H) | (have H2_ := (Option.bind_some _ _).symm.trans H; rw [hy102]; with_reducible exact H2_) | (have H2_ := (Option.bind_some _ _).symm.trans H; with_reducible exact H2_) | with_reducible exact H | (rw [hy102]; exact H) | exact H
 have Ny102 := Aside0.mk hy102
 clear hy102
 have HC4 := Aside0.mk H
 clear H
 go_enter Try.func42, Try.ntmps42
 go_upto_region 2 with (first | ((with_reducible refine gate_dst (N := 3) rfl ?_); refine be (cs := #[.int .i64 a0_0, .slice A0_1 l0_1.length c0_1]) (t := 25) ?_; intro gb101 hg w5 hbox hb; have BK101 := Aside0.mk (hbox); have GW101 := gz w hg (uB0 HB); have GE101 := gz w hg (uB0 HB); replace HB := Aside0.mk (below_step (uB0 HB) hb); clear hb hbox hg) | ((with_reducible refine gate_dst (N := 12) rfl ?_); refine Kd.S_lit (Kd.slice 3 (Kd.int .i64)) _ 26 ?hg (N := 12) ?hd (xs := ([] : List (List Int))) (inner := []) (ok := fun _ => True) (okp := fun _ => True) ?hr ?hp (fun _ hk => hk) trivial (Below.refl _ _) (Nat.le_refl _) (by simp) ?_; (case hd => rfl); (case hg => rfl); (case hr => first | (go_simp; done) | (go_simp; rfl)); (case hp => exact (Reps.none _ _)); intro v103 w6 ho7 hb hg_ hnew_; clear hg_ hnew_; (first | rw [← Ny102.out] at ho7 | (simp only [Int.reduceToNat] at ho7; rw [← Ny102.out] at ho7)); have HO104 := Aside0.mk (Kd.S_lower ho7 (below_size (uB1 HB GE101.out))); replace BK101 := bb BK101 hb; replace HB := Aside0.mk (below_step (uB1 HB GE101.out) hb); clear hb ho7))
 (try simp only [Act.put, List.setIfInBounds_toArray, List.set_cons_zero, List.set_cons_succ])
 go_cut [27] (fun v27 wc => ∃ (kq : Nat) (x27_3 : Bool), v27 = .bool x27_3 ∧ Aside0 (spec_ManyAll.j0 kq l1 l2 y102 x27_3 a0_0 l0_1 = some r) ∧ Aside0 (kq ≤ k) ∧ Aside0 (Kd.S (Kd.slice 3 (Kd.int .i64)) 26 wc w.heap.size (fun _ => True) v103 y102) ∧ Aside0 (wc.heap[gb101]? = some (.cells #[.int .i64 a0_0, (.slice A0_1 l0_1.length c0_1)] 25 (0, 0))) ∧ Aside0 (Below w.heap.size w wc))
 case first =>
  have H := HC4.out; clear HC4; replace H := Option.bind_eq_some_iff.mp H; obtain ⟨t105, A80, H⟩ := H; replace H : (if t105 = true then ((spec_l11Nodes.f k a0_0 l0_1 l1).bind fun t106 => (if t106 = true then ((spec_l11Nodes.f k a0_0 l0_1 l2).bind fun t107 => (spec_ManyAll.j0 k l1 l2 y102 (!t107) a0_0 l0_1)) else (spec_ManyAll.j0 k l1 l2 y102 true a0_0 l0_1))) else (spec_ManyAll.j0 k l1 l2 y102 true a0_0 l0_1)) = some r := H; have A8 := Aside0.mk A80; clear A80; by_cases c9 : t105 = true
  ·
   subst c9; rw [if_pos rfl] at H; replace H := Option.bind_eq_some_iff.mp H; obtain ⟨t106, A100, H⟩ := H; replace H : (if t106 = true then ((spec_l11Nodes.f k a0_0 l0_1 l2).bind fun t107 => (spec_ManyAll.j0 k l1 l2 y102 (!t107) a0_0 l0_1)) else (spec_ManyAll.j0 k l1 l2 y102 true a0_0 l0_1)) = some r := H; have A10 := Aside0.mk A100; clear A100; by_cases c11 : t106 = true
   ·
    subst c11; rw [if_pos rfl] at H; replace H := Option.bind_eq_some_iff.mp H; obtain ⟨t107, A120, H⟩ := H; replace H : (spec_ManyAll.j0 k l1 l2 y102 (!t107) a0_0 l0_1) = some r := H; have A12 := Aside0.mk A120; clear A120; have H' := Aside0.mk H; clear H; obtain ⟨hcz13_0, hcz13_1, hfz13_0, hfz13_1⟩ := bc2 BK101; go_wp2_with (first | ((with_reducible refine gate_callee (f := 60) rfl ?_); refine goesL_ (some 14) rfl rfl Try.func60 (by kernel_rfl) rfl #[.agg #[.int .i64 a0_0, .slice A0_1 l0_1.length c0_1]] rfl ul ?_; (with_reducible refine (spec_l1Ok.calls k a0_0 _ _ l0_1 true _ ?side1 ?side2 A8.out).mono ?_); (case side1 => exact uC HR0_1 HB); (case side2 => exact HC0_1.out); rintro e w14 ⟨rfl, hb⟩; refine ⟨_, rfl, ?_⟩; replace HO104 := Aside0.mk (Kd.S_below (by (with_reducible repeat (first | apply Kd.S_alloc | apply Kd.S_drewN | apply Kd.S_drew)); exact HO104.out) hb); replace BK101 := bb BK101 hb; replace HB := Aside0.mk (below_step (uB1 HB GE101.out) hb); (try clear hb); (try clear hb2); (try clear hk); (try clear hi); obtain ⟨hcz15_0, hcz15_1, hfz15_0, hfz15_1⟩ := bc2 BK101) | (go_at_call 86; (with_reducible refine (spec_l11Nodes.calls k a0_0 _ _ l0_1 _ _ l1 true _ ?side1 ?side2 ?side3 ?side4 A10.out).mono ?_); (case side1 => exact uC HR0_1 HB); (case side2 => exact HC0_1.out); (case side3 => exact uC HR1 HB); (case side4 => exact HC1.out); rintro e w16 ⟨rfl, hb⟩; replace HO104 := Aside0.mk (Kd.S_below (by (with_reducible repeat (first | apply Kd.S_alloc | apply Kd.S_drewN | apply Kd.S_drew)); exact HO104.out) hb); replace BK101 := bb BK101 hb; replace HB := Aside0.mk (below_step (uB1 HB GE101.out) hb); (try clear hb); (try clear hb2); (try clear hk); (try clear hi); obtain ⟨hcz17_0, hcz17_1, hfz17_0, hfz17_1⟩ := bc2 BK101) | (go_at_call 86; (with_reducible refine (spec_l11Nodes.calls k a0_0 _ _ l0_1 _ _ l2 t107 _ ?side1 ?side2 ?side3 ?side4 A12.out).mono ?_); (case side1 => exact uC HR0_1 HB); (case side2 => exact HC0_1.out); (case side3 => exact uC HR2 HB); (case side4 => exact HC2.out); rintro e w18 ⟨rfl, hb⟩; replace HO104 := Aside0.mk (Kd.S_below (by (with_reducible repeat (first | apply Kd.S_alloc | apply Kd.S_drewN | apply Kd.S_drew)); exact HO104.out) hb); replace BK101 := bb BK101 hb; replace HB := Aside0.mk (below_step (uB1 HB GE101.out) hb); (try clear hb); (try clear hb2); (try clear hk); (try clear hi))); go_meet
    case rel => exact ⟨_, (!t107), ue, H', ⟨by first | omega | exact Nat.le_refl _⟩, ⟨by (with_reducible repeat (first | apply Kd.S_alloc | apply Kd.S_drewN | apply Kd.S_drew)); exact HO104.out⟩, ⟨ub BK101⟩, ⟨uB1 HB GE101.out⟩⟩
   ·
    replace c11 := Bool.eq_false_iff.mpr c11; subst c11; rw [if_neg (show ¬ (false = true) by decide)] at H; have H' := Aside0.mk H; clear H; obtain ⟨hcz19_0, hcz19_1, hfz19_0, hfz19_1⟩ := bc2 BK101; go_wp2_with (first | ((with_reducible refine gate_callee (f := 60) rfl ?_); refine goesL_ (some 14) rfl rfl Try.func60 (by kernel_rfl) rfl #[.agg #[.int .i64 a0_0, .slice A0_1 l0_1.length c0_1]] rfl ul ?_; (with_reducible refine (spec_l1Ok.calls k a0_0 _ _ l0_1 true _ ?side1 ?side2 A8.out).mono ?_); (case side1 => exact uC HR0_1 HB); (case side2 => exact HC0_1.out); rintro e w20 ⟨rfl, hb⟩; refine ⟨_, rfl, ?_⟩; replace HO104 := Aside0.mk (Kd.S_below (by (with_reducible repeat (first | apply Kd.S_alloc | apply Kd.S_drewN | apply Kd.S_drew)); exact HO104.out) hb); replace BK101 := bb BK101 hb; replace HB := Aside0.mk (below_step (uB1 HB GE101.out) hb); (try clear hb); (try clear hb2); (try clear hk); (try clear hi); obtain ⟨hcz21_0, hcz21_1, hfz21_0, hfz21_1⟩ := bc2 BK101) | (go_at_call 86; (with_reducible refine (spec_l11Nodes.calls k a0_0 _ _ l0_1 _ _ l1 false _ ?side1 ?side2 ?side3 ?side4 A10.out).mono ?_); (case side1 => exact uC HR0_1 HB); (case side2 => exact HC0_1.out); (case side3 => exact uC HR1 HB); (case side4 => exact HC1.out); rintro e w22 ⟨rfl, hb⟩; replace HO104 := Aside0.mk (Kd.S_below (by (with_reducible repeat (first | apply Kd.S_alloc | apply Kd.S_drewN | apply Kd.S_drew)); exact HO104.out) hb); replace BK101 := bb BK101 hb; replace HB := Aside0.mk (below_step (uB1 HB GE101.out) hb); (try clear hb); (try clear hb2); (try clear hk); (try clear hi))); go_meet
    case rel => exact ⟨_, (true), ue, H', ⟨by first | omega | exact Nat.le_refl _⟩, ⟨by (with_reducible repeat (first | apply Kd.S_alloc | apply Kd.S_drewN | apply Kd.S_drew)); exact HO104.out⟩, ⟨ub BK101⟩, ⟨uB1 HB GE101.out⟩⟩
  ·
   replace c9 := Bool.eq_false_iff.mpr c9; subst c9; rw [if_neg (show ¬ (false = true) by decide)] at H; have H' := Aside0.mk H; clear H; obtain ⟨hcz23_0, hcz23_1, hfz23_0, hfz23_1⟩ := bc2 BK101; go_wp2_with (first | ((with_reducible refine gate_callee (f := 60) rfl ?_); refine goesL_ (some 14) rfl rfl Try.func60 (by kernel_rfl) rfl #[.agg #[.int .i64 a0_0, .slice A0_1 l0_1.length c0_1]] rfl ul ?_; (with_reducible refine (spec_l1Ok.calls k a0_0 _ _ l0_1 false _ ?side1 ?side2 A8.out).mono ?_); (case side1 => exact uC HR0_1 HB); (case side2 => exact HC0_1.out); rintro e w24 ⟨rfl, hb⟩; refine ⟨_, rfl, ?_⟩; replace HO104 := Aside0.mk (Kd.S_below (by (with_reducible repeat (first | apply Kd.S_alloc | apply Kd.S_drewN | apply Kd.S_drew)); exact HO104.out) hb); replace BK101 := bb BK101 hb; replace HB := Aside0.mk (below_step (uB1 HB GE101.out) hb); (try clear hb); (try clear hb2); (try clear hk); (try clear hi))); go_meet
   case rel => exact ⟨_, (true), ue, H', ⟨by first | omega | exact Nat.le_refl _⟩, ⟨by (with_reducible repeat (first | apply Kd.S_alloc | apply Kd.S_drewN | apply Kd.S_drew)); exact HO104.out⟩, ⟨ub BK101⟩, ⟨uB1 HB GE101.out⟩⟩
 case rest =>
  clear HC4; try clear c1
  try clear c2
  try clear p2
  try clear c4
  try clear c6
  try clear c9
  try clear c11
  try clear hcz13_0 hcz13_1
  try clear hcz15_0 hcz15_1
  try clear hcz17_0 hcz17_1
  try clear hcz19_0 hcz19_1
  try clear hcz21_0 hcz21_1
  try clear hcz23_0 hcz23_1
  try clear hfz13_0 hfz13_1
  try clear hfz15_0 hfz15_1
  try clear hfz17_0 hfz17_1
  try clear hfz19_0 hfz19_1
  try clear hfz21_0 hfz21_1
  try clear hfz23_0 hfz23_1
  obtain ⟨kq, x27_3, rfl, HA, HJ3, HO_7, BK101, HB⟩ := hcut
  cases kq with
  | zero => exact absurd HA.out (by simp [spec_ManyAll.j0])
  | succ kj3 =>
   have H := HA.out; clear HA; simp only [spec_ManyAll.j0] at H; by_cases c25 : x27_3 = true
   ·
    subst c25; rw [if_pos rfl] at H; obtain rfl := Option.some.inj H; go_wp2; go_ret; exact ⟨_, by first | rfl | (simp [errW_none, errW_some] <;> rfl) | (simp [*, errW_none, errW_some] <;> rfl), by first | exact Kd.S_nil _ _ _ _ _ | exact Kd.N_nil _ _ _ _ _ | exact Kd.V_nil _ _ _ _ _ | exact Kd.Q_nil _ _ _ _ _ | exact Kd.R_nil _ _ _ _ _, uB1 HB GE101.out⟩
   ·
    replace c25 := Bool.eq_false_iff.mpr c25; subst c25; rw [if_neg (show ¬ (false = true) by decide)] at H; have H' := Aside0.mk H; clear H; go_wp2; go_loopg [7, 8] kj3 (fun kq v7 v8 w' => ∃ (x7_2 : List (List Int)) (x8_2 : Int), v8 = .int .i64 x8_2 ∧ Aside0 (spec_ManyAll.l0 kq l1 l2 x7_2 x8_2 a0_0 l0_1 = some r) ∧ Aside0 (kq ≤ kj3) ∧ Aside0 (Kd.S (Kd.slice 3 (Kd.int .i64)) 26 w' w.heap.size (fun _ => True) v7 x7_2) ∧ Aside0 (w'.heap[gb101]? = some (.cells #[.int .i64 a0_0, (.slice A0_1 l0_1.length c0_1)] 25 (0, 0))) ∧ Aside0 (Below w.heap.size w w'))
    case atStart => exact ⟨(y102), (0), ue, H', ⟨Nat.le_refl _⟩, ⟨by (with_reducible repeat (first | apply Kd.S_alloc | apply Kd.S_drewN | apply Kd.S_drew)); exact HO_7.out⟩, ⟨ub BK101⟩, ⟨uB1 HB GE101.out⟩⟩
    case round =>
     clear H'; try clear c1
     try clear c2
     try clear p2
     try clear c4
     try clear c6
     try clear c9
     try clear c11
     try clear c25
     try clear hcz13_0 hcz13_1
     try clear hcz15_0 hcz15_1
     try clear hcz17_0 hcz17_1
     try clear hcz19_0 hcz19_1
     try clear hcz21_0 hcz21_1
     try clear hcz23_0 hcz23_1
     try clear hfz13_0 hfz13_1
     try clear hfz15_0 hfz15_1
     try clear hfz17_0 hfz17_1
     try clear hfz19_0 hfz19_1
     try clear hfz21_0 hfz21_1
     try clear hfz23_0 hfz23_1
     try clear p2
     obtain ⟨x7_2, x8_2, rfl, HA, HK2, HO_7, BK101, HB⟩ := hrel
     cases gk with
     | zero => exact absurd HA.out (by simp [spec_ManyAll.l0])
     | succ k2 =>
      have H := HA.out; clear HA; simp only [spec_ManyAll.l0] at H; by_cases c26 : x8_2 < (l1.length : Int)
      ·
       rw [if_pos c26] at H; have c26b0 := dl c26; clear c26; by_cases c27 : 0 ≤ x8_2
       ·
        rw [if_pos c27] at H; have c27b0 := de c27; clear c27; replace H := Option.bind_eq_some_iff.mp H; obtain ⟨t109, A280, H⟩ := H; replace H : (spec_ManyAll.l1 k2 l1 l2 x7_2 x8_2 t109 (([] : List Int)) 0 a0_0 l0_1) = some r := H; have A28 := Aside0.mk A280; clear A280; obtain ⟨y112, hy112⟩ : ∃ y_ : List Int, y_ = (([] : List Int)) := ⟨_, rfl⟩
        replace H : (spec_ManyAll.l1 k2 l1 l2 x7_2 x8_2 t109 y112 0 a0_0 l0_1) = some r := by first | (rw [hy112]; with_reducible exact H) | (have H2_ := (Option.bind_some _ _).symm.trans H; rw [hy112]; with_reducible exact H2_) | (have H2_ := (Option.bind_some _ _).symm.trans H; with_reducible exact H2_) | with_reducible exact H | (rw [hy112]; exact H) | exact H
        have Ny112 := Aside0.mk hy112; clear hy112; have H' := Aside0.mk H; clear H; try go_wp2
        replace HO_7 := Aside0.mk (Kd.S_drew HO_7.out); replace BK101 := Aside0.mk (blk_drew BK101.out); replace HB := Aside0.mk (below_drew1 HB.out); have p108 : 0 ≤ (x8_2 : Int) := ua; have q108 : x8_2 < (l1.length : Int) := ua; obtain ⟨ad108, e108, hx108_0⟩ := Kd.at_int HR1.out x8_2 p108 q108; have hw108_0 := hx108_0
        cases e108
        replace hx108_0 := uc HB hx108_0; replace p108 := eq_true p108; replace q108 := eq_true q108; refine start_ (n := 7) (S := fun w' => w'.cell? ⟨gb101, 0, none⟩ = some (.int .i64 a0_0) ∧ w'.cell? ⟨gb101, 1, none⟩ = some (.slice A0_1 l0_1.length c0_1) ∧ w'.cell? (ad108.add (x8_2).toNat) = some (.int .i64 (rd l1 x8_2))) (ds := []) (zt 7 0) (by kernel_rfl) rfl (by kernel_rfl) (b2x BK101 (ud HB hw108_0)) (fun hHeld => ?_); generalize wr.drew = w29 at HO_7 BK101 HB hx108_0 hHeld ⊢; refine pure_ (i := 1) (N := some 35) (v := ?_) (a' := ?_) (zt 7 2) rfl rfl (by kernel_rfl) (fun _ _ _ h => h) (Or.inl ⟨by rfl, ?_⟩) ?_ ?_; rotate_left; (intro w'; go_simp; with_reducible rfl); rotate_left; (simp only [Act.put, List.setIfInBounds_toArray, List.set_cons_zero, List.set_cons_succ, i64_w, i32_w]; rfl); refine pure_ (i := 2) (N := some 36) (v := ?_) (a' := ?_) (zt 7 6) rfl rfl (by kernel_rfl) (fun _ _ _ h => h) (Or.inl ⟨by rfl, ?_⟩) ?_ ?_; rotate_left; (intro w'; go_simp; with_reducible rfl); rotate_left; (simp only [Act.put, List.setIfInBounds_toArray, List.set_cons_zero, List.set_cons_succ, i64_w, i32_w]; rfl); refine pure_ (i := 3) (N := some 37) (v := ?_) (a' := ?_) (zt 7 14) rfl rfl (by kernel_rfl) (fun _ _ _ h => h) (Or.inl ⟨by rfl, ?_⟩) ?_ ?_; rotate_left; (intro w'; go_simp; with_reducible rfl); rotate_left; (simp only [Act.put, List.setIfInBounds_toArray, List.set_cons_zero, List.set_cons_succ, i64_w, i32_w]; rfl); refine take_ (i := 0) (N := some 34) (v := ?_) (a' := ?_) (zt 7 15) rfl rfl (by kernel_rfl) (fun _ _ _ h => h) (Or.inl ⟨by rfl, ?_⟩) hHeld ?_ ?_; rotate_left; (rintro w' ⟨s0, s1, s2⟩; go_simp; with_reducible rfl); rotate_left; (simp only [Act.put, List.setIfInBounds_toArray, List.set_cons_zero, List.set_cons_succ, i64_w, i32_w]; rfl); refine take_ (i := 4) (N := some 38) (v := ?_) (a' := ?_) (zt 7 31) rfl rfl (by kernel_rfl) (fun _ _ _ h => h) (Or.inl ⟨by rfl, ?_⟩) hHeld ?_ ?_; rotate_left; (rintro w' ⟨s0, s1, s2⟩; go_simp; with_reducible rfl); rotate_left; (simp only [Act.put, List.setIfInBounds_toArray, List.set_cons_zero, List.set_cons_succ, i64_w, i32_w]; rfl); refine one_ (i := 5) (N := some 39) (zt 7 63) rfl rfl (by kernel_rfl) (by decide) (fun K hK => ?_); refine goes_ Try.func87 (by kernel_rfl) rfl #[.agg #[.int .i64 a0_0, .slice A0_1 l0_1.length c0_1], .int .i64 (rd l1 x8_2)] (by rfl) rfl rfl ul ?_; with_reducible refine (spec_l3All.calls k2 a0_0 _ _ l0_1 (rd l1 x8_2) t109 _ ?side1 ?side2 A28.out).mono ?_
        (case side1 => exact uC HR0_1 HB); (case side2 => exact HC0_1.out); rintro e w30 ⟨v110, rfl, ho0, hb⟩; refine ⟨_, rfl, ?_⟩; replace HO_7 := Aside0.mk (Kd.S_elder' (by (with_reducible repeat (first | apply Kd.S_alloc | apply Kd.S_drewN | apply Kd.S_drew)); exact HO_7.out) (Kd.R_base ho0) hb); have HO111 := Aside0.mk (Kd.R_lower ho0 (below_size (uB1 HB GE101.out))); replace BK101 := bb BK101 hb; replace HB := Aside0.mk (below_step (uB1 HB GE101.out) hb); (try clear hb); (try clear hb2); (try clear hk); (try clear hi); (try clear ho0); refine hK.out _ _ (b2x BK101 (ud HB hw108_0)) (fun hHeld => ?_); clear hK K; refine nz ?_
        refine pure_ (i := 6) (N := some 9) (v := ?_) (a' := ?_) (zt 7 127) rfl rfl (by kernel_rfl) (fun _ _ _ h => h) (Or.inl ⟨by rfl, ?_⟩) ?_ ?_; rotate_left; (intro w'; go_simp; with_reducible rfl); rotate_left; (simp only [Act.put, List.setIfInBounds_toArray, List.set_cons_zero, List.set_cons_succ, i64_w, i32_w]; rfl); refine done_ (by kernel_rfl) ?_; try go_wp2_with (first | ((with_reducible refine gate_dst (N := 40) rfl ?_); refine Kd.R_lit (Kd.int .i64) _ 3 ?hg (N := 40) ?hd (xs := ([] : List Int)) (inner := []) (ok := fun _ => True) (okp := fun _ => True) ?hr ?hp (fun _ hk => hk) trivial (Below.refl _ _) (Nat.le_refl _) (by simp) ?_; (case hd => rfl); (case hg => rfl); (case hr => first | (go_simp; done) | (go_simp; rfl)); (case hp => exact (Reps.none _ _)); intro v113 w31 ho32 hb hg_ hnew_; clear hg_ hnew_; (first | rw [← Ny112.out] at ho32 | (simp only [Int.reduceToNat] at ho32; rw [← Ny112.out] at ho32)); replace HO_7 := Aside0.mk (Kd.S_elder' (by (with_reducible repeat (first | apply Kd.S_alloc | apply Kd.S_drewN | apply Kd.S_drew)); exact HO_7.out) (Kd.R_base ho32) hb); have HO114 := Aside0.mk (Kd.R_lower (Kd.R_new' ho32 (Kd.R_lt (ur HO111))) (below_size (uB1 HB GE101.out))); replace HO111 := Aside0.mk (Kd.R_elder' (ur HO111) (Kd.R_base ho32) hb); replace BK101 := bb BK101 hb; replace HB := Aside0.mk (below_step (uB1 HB GE101.out) hb); clear hb ho32))
        go_loopg [10, 11] k2 (fun kq v10 v11 w' => ∃ (x10_3 : List Int) (x11_3 : Int), v11 = .int .i64 x11_3 ∧ Aside0 (spec_ManyAll.l1 kq l1 l2 x7_2 x8_2 t109 x10_3 x11_3 a0_0 l0_1 = some r) ∧ Aside0 (kq ≤ k2) ∧ Aside0 (Kd.S (Kd.slice 3 (Kd.int .i64)) 26 w' w.heap.size (fun k_ => some k_ ≠ (v110 : Value).ownBlock ∧ some k_ ≠ (v10 : Value).ownBlock) u7 x7_2) ∧ Aside0 (Kd.R (Kd.int .i64) 3 w' w.heap.size (fun k_ => some k_ ≠ (v10 : Value).ownBlock) v110 t109) ∧ Aside0 (Kd.R (Kd.int .i64) 3 w' w.heap.size (fun k_ => some k_ ≠ (v110 : Value).ownBlock) v10 x10_3) ∧ Aside0 (w'.heap[gb101]? = some (.cells #[.int .i64 a0_0, (.slice A0_1 l0_1.length c0_1)] 25 (0, 0))) ∧ Aside0 (Below w.heap.size w w'))
        case atStart => exact ⟨(y112), (0), ue, H', ⟨Nat.le_refl _⟩, ⟨by (with_reducible repeat (first | apply Kd.S_alloc | apply Kd.S_drewN | apply Kd.S_drew)); exact Kd.S_mono HO_7.out (fun _ hk => ⟨hk.1.2, hk.2⟩)⟩, ⟨by (with_reducible repeat (first | apply Kd.R_alloc | apply Kd.R_drewN | apply Kd.R_drew)); exact Kd.R_mono HO111.out (fun _ hk => hk.2)⟩, ⟨by (with_reducible repeat (first | apply Kd.R_alloc | apply Kd.R_drewN | apply Kd.R_drew)); exact Kd.R_mono HO114.out (fun _ hk => hk.2)⟩, ⟨ub BK101⟩, ⟨uB1 HB GE101.out⟩⟩
        case round =>
         clear H'; try clear c1
         try clear p1
         try clear q1
         try clear hx1
         try clear c2
         try clear p2
         try clear c4
         try clear c6
         try clear c8
         try clear c9
         try clear p10
         try clear q10
         try clear hx10
         try clear c11
         try clear c25
         try clear c26
         try clear c26b0
         try clear c27
         try clear c27b0
         try clear hcz13_0 hcz13_1
         try clear hcz15_0 hcz15_1
         try clear hcz17_0 hcz17_1
         try clear hcz19_0 hcz19_1
         try clear hcz21_0 hcz21_1
         try clear hcz23_0 hcz23_1
         try clear hfz13_0 hfz13_1
         try clear hfz15_0 hfz15_1
         try clear hfz17_0 hfz17_1
         try clear hfz19_0 hfz19_1
         try clear hfz21_0 hfz21_1
         try clear hfz23_0 hfz23_1
         try clear hx108_0
         try clear p108
         try clear p2
         try clear q108
         obtain ⟨x10_3, x11_3, rfl, HA, HK3, HO_7, HO_9, HO_10, BK101, HB⟩ := hrel
         cases gk with
         | zero => exact absurd HA.out (by simp [spec_ManyAll.l1])
         | succ k3 =>
          have H := HA.out; clear HA; simp only [spec_ManyAll.l1] at H; by_cases c33 : x11_3 < (l2.length : Int)
          ·
           rw [if_pos c33] at H; have c33b0 := dl c33; clear c33; by_cases c34 : 0 ≤ x11_3
           ·
            rw [if_pos c34] at H; have c34b0 := de c34; clear c34; by_cases c35 : 0 ≤ (rd l2 x11_3)
            ·
             rw [if_pos c35] at H; have c35b0 := de c35; clear c35; by_cases c36 : (rd l2 x11_3) < (t109.length : Int)
             ·
              rw [if_pos c36] at H; have c36b0 := dl c36; clear c36; by_cases c37 : x10_3.length < 17592186044416
              ·
               rw [if_pos c37] at H; have LMc37 := Aside0.mk c37; clear c37; obtain ⟨y117, hy117⟩ : ∃ y_ : List Int, y_ = (x10_3 ++ [rd t109 (rd l2 x11_3)]) := ⟨_, rfl⟩
               replace H : (spec_ManyAll.l1 k3 l1 l2 x7_2 x8_2 t109 y117 (wrap64 (x11_3 + 1)) a0_0 l0_1) = some r := by first | (rw [hy117]; with_reducible exact H) | (have H2_ := (Option.bind_some _ _).symm.trans H; rw [hy117]; with_reducible exact H2_) | (have H2_ := (Option.bind_some _ _).symm.trans H; with_reducible exact H2_) | with_reducible exact H | (rw [hy117]; exact H) | exact H
               have Ny117 := Aside0.mk hy117; clear hy117; have H' := Aside0.mk H; clear H; have p115 : 0 ≤ (x11_3 : Int) := ua; have q115 : x11_3 < (l2.length : Int) := ua; obtain ⟨ad115, e115, hx115_0⟩ := Kd.at_int HR2.out x11_3 p115 q115
               cases e115
               replace hx115_0 := uc HB hx115_0; replace p115 := eq_true p115; replace q115 := eq_true q115; obtain ⟨Ao38, co38, eo38⟩ := Kd.R_slice HO_9.out; subst eo38; have p116 : 0 ≤ ((rd l2 x11_3) : Int) := ua; have q116 : (rd l2 x11_3) < (t109.length : Int) := ua; obtain ⟨ad116, e116, hx116_0⟩ := Kd.at_int (Kd.R_reads' HO_9.out).2.2 (rd l2 x11_3) p116 q116
               cases e116
               replace p116 := eq_true p116; replace q116 := eq_true q116; go_wp2_with (first | ((with_reducible refine gate_builtin (b := .append) (xs := #[.tmp 47, .tmp 55]) rfl ?_); at_builtin; refine Kd.R_append (Kd.int .i64) (w0 := w) w.heap.size rfl (.tmp 47) (.tmp 55) 26 3 (.int .i64 0) 8 rfl Try.underlying26 info3 rfl (by decide) (by omega) u10 x10_3 (rd t109 (rd l2 x11_3)) [.int .i64 (rd t109 (rd l2 x11_3))] (fun k_ => some k_ ≠ (.slice (some ad116) t109.length co38 : Value).ownBlock) (fun _ => False) rfl rfl ?aP (fun _ hk => hk.elim) ?aF ?aO ?aB ?aS ?aL ?_; (case aP => exact rfl); (case aB => exact (uB1 HB GE101.out)); (case aF => exact (fun k_ hk => Kd.fresh' (Kd.R_lt (ur HO_9)) k_ hk)); (case aO => exact (ur HO_10)); (case aS => exact (below_size (uB1 HB GE101.out))); (case aL => have := LMc37.out; omega); intro v118 w39 ho hb hg hat; rw [← Ny117.out] at ho; replace HO_7 := Aside0.mk (Kd.S_after (ok := (fun k_ => some k_ ≠ (.slice (some ad116) t109.length co38 : Value).ownBlock)) (by (with_reducible repeat (first | apply Kd.S_alloc | apply Kd.S_drewN | apply Kd.S_drew)); exact HO_7.out) hg hat); replace HO_9 := Aside0.mk (Kd.R_after (ok := (fun _ => True)) (by (with_reducible repeat (first | apply Kd.R_alloc | apply Kd.R_drewN | apply Kd.R_drew)); exact Kd.R_mono HO_9.out (fun _ hk => ⟨trivial, hk⟩)) hg hat); replace BK101 := bg BK101 hg (Kd.R_ne HO_10.out BK101.out (by decide)); replace HB := Aside0.mk (hb); have HO119 := Aside0.mk (ho); clear HO_10; clear ho hb hg hat)); go_roundg k3
               case measure => have := HJ3.out; have := HK2.out; have := HK3.out; omega
               case rel => exact ⟨(y117), (wrap64 (x11_3 + 1)), ue, H', ⟨by have := HJ3.out; have := HK2.out; have := HK3.out; omega⟩, ⟨by (with_reducible repeat (first | apply Kd.S_alloc | apply Kd.S_drewN | apply Kd.S_drew)); exact HO_7.out⟩, ⟨by (with_reducible repeat (first | apply Kd.R_alloc | apply Kd.R_drewN | apply Kd.R_drew)); exact Kd.R_mono HO_9.out (fun _ hk => hk.2)⟩, ⟨ur HO119⟩, ⟨ub BK101⟩, ⟨uB1 HB GE101.out⟩⟩
              ·
               rw [if_neg c37] at H; exact absurd H (by simp)
             ·
              rw [if_neg c36] at H; exact absurd H (by simp)
            ·
             rw [if_neg c35] at H; exact absurd H (by simp)
           ·
            rw [if_neg c34] at H; exact absurd H (by simp)
          ·
           rw [if_neg c33] at H; have c33b0 := DL c33; clear c33; by_cases c40 : x7_2.length < 5864062014805
           ·
            rw [if_pos c40] at H; have LMc40 := Aside0.mk c40; clear c40; obtain ⟨y120, hy120⟩ : ∃ y_ : List (List Int), y_ = (x7_2 ++ [x10_3]) := ⟨_, rfl⟩
            replace H : (spec_ManyAll.l0 k3 l1 l2 y120 (wrap64 (x8_2 + 1)) a0_0 l0_1) = some r := by first | (rw [hy120]; with_reducible exact H) | (have H2_ := (Option.bind_some _ _).symm.trans H; rw [hy120]; with_reducible exact H2_) | (have H2_ := (Option.bind_some _ _).symm.trans H; with_reducible exact H2_) | with_reducible exact H | (rw [hy120]; exact H) | exact H
            have Ny120 := Aside0.mk hy120; clear hy120; have H' := Aside0.mk H; clear H; obtain ⟨Ao42, co42, eo42⟩ := Kd.R_slice HO_10.out; subst eo42; go_wp2_with (first | ((with_reducible refine gate_builtin (b := .append) (xs := #[.tmp 57, .tmp 59]) rfl ?_); at_builtin; refine Kd.S_append (Kd.slice 3 (Kd.int .i64)) (w0 := w) w.heap.size rfl (.tmp 57) (.tmp 59) 53 26 (.slice none 0 0) 24 rfl Try.underlying53 info26 rfl (by decide) (by omega) u7 x7_2 x10_3 [.slice Ao42 x10_3.length co42] (fun k_ => some k_ ≠ (v110 : Value).ownBlock) (fun k_ => some k_ = (.slice Ao42 x10_3.length co42 : Value).ownBlock) rfl rfl ?aP (fun k_ hk_ => ((Kd.R_mono (ok' := fun k_ => ((fun k_ => some k_ ≠ (v110 : Value).ownBlock)) k_ ∧ some k_ ≠ (u7 : Value).ownBlock) (Kd.R_apart' (HO_10.out) (Kd.S_typed HO_7.out) (by decide)) (fun k_ hk => ⟨hk.1, hk.2⟩))).1 k_ hk_.symm) ?aF ?aO ?aB ?aS ?aL ?_; (case aP => exact Kd.M_row (Kd.R_mono (Kd.R_tight rfl (Kd.R_mono (ok' := fun k_ => ((fun k_ => some k_ ≠ (v110 : Value).ownBlock)) k_ ∧ some k_ ≠ (u7 : Value).ownBlock) (Kd.R_apart' (HO_10.out) (Kd.S_typed HO_7.out) (by decide)) (fun k_ hk => ⟨hk.1, hk.2⟩))) (fun _ h_ => h_))); (case aB => exact (uB1 HB GE101.out)); (case aF => exact (fun k_ hk => Kd.fresh' (Kd.R_lt (ur HO_9)) k_ hk)); (case aO => exact (by (with_reducible repeat (first | apply Kd.S_alloc | apply Kd.S_drewN | apply Kd.S_drew)); exact Kd.S_mono HO_7.out (fun k_ hk => ⟨hk.1, fun e_ => hk.2 e_⟩))); (case aS => exact (below_size (uB1 HB GE101.out))); (case aL => have := LMc40.out; omega); intro v121 w41 ho hb hg hat; rw [← Ny120.out] at ho; replace HO_9 := Aside0.mk (Kd.R_over' (ur HO_9) (Kd.S_typed (by (with_reducible repeat (first | apply Kd.S_alloc | apply Kd.S_drewN | apply Kd.S_drew)); exact HO_7.out)) (by decide) hg); replace BK101 := Aside0.mk (blk_grown (g := gb101) (o := .cells #[.int .i64 a0_0, .slice A0_1 l0_1.length c0_1] 25 (0, 0)) (ub BK101) hg (Kd.S_ne HO_7.out BK101.out (by decide))); replace HB := Aside0.mk (hb); have HO122 := Aside0.mk (ho); clear HO_7; clear HO_10; clear ho hb hg hat)); go_roundg k3
            case measure => have := HJ3.out; have := HK2.out; have := HK3.out; omega
            case rel => exact ⟨(y120), (wrap64 (x8_2 + 1)), ue, H', ⟨by have := HJ3.out; have := HK2.out; have := HK3.out; omega⟩, ⟨by (with_reducible repeat (first | apply Kd.S_alloc | apply Kd.S_drewN | apply Kd.S_drew)); exact Kd.S_mono HO122.out (fun _ hk => trivial)⟩, ⟨ub BK101⟩, ⟨uB1 HB GE101.out⟩⟩
           ·
            rw [if_neg c40] at H; exact absurd H (by simp)
       ·
        rw [if_neg c27] at H; exact absurd H (by simp)
      ·
       rw [if_neg c26] at H; have c26b0 := DL c26; clear c26; obtain rfl := Option.some.inj H; go_wp2; go_ret; exact ⟨_, by first | rfl | (simp [errW_none, errW_some] <;> rfl) | (simp [*, errW_none, errW_some] <;> rfl), by (with_reducible repeat (first | apply Kd.S_alloc | apply Kd.S_drewN | apply Kd.S_drew)); exact HO_7.out, uB1 HB GE101.out⟩

end Go.Proofs.Ytblpdfgplifccaa.P
