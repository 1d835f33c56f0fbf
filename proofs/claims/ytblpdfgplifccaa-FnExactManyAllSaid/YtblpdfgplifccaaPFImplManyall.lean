-- written for this claim by a program (wip/gen/myprint.py over the print tool). Not trusted: Lean checks it.
import Derived.Test.YtblpdfgplifccaaPx0
import Derived.Test.YtblpdfgplifccaaHUp
import Derived.Test.YtblpdfgplifccaaPFImplNetFrom
import Derived.Test.YtblpdfgplifccaaPFImplListok
namespace Go.Proofs.Ytblpdfgplifccaa.P
open Go.RowKit Go.Proofs.YtblpdfgplifccaaV.PrintWords Go.Proofs.YtblpdfgplifccaaV.PrintLast
set_option linter.unusedVariables false
set_option linter.unusedSimpArgs false

/-! ### impl_ManyAll: function 43 -/
mutual
def impl_ManyAll.j0 : Nat → List Int → List Int → Bool → Int → List (S33) → Option ((List (List Int)))
 | 0, _, _, _, _, _ => none
 | k + 1, x1, x2, x23, x102000, x102001 => if x23 = true then (some ([] : List (List Int))) else (if 0 ≤ (x1.length : Int) then (if ((x1.length : Int) : Int).toNat ≤ 11728124029610 then (impl_ManyAll.l0 k x2 (([] : List (List Int))) x1 (x1.length : Int) 0 x102000 x102001) else (none)) else (none))
def impl_ManyAll.l0 : Nat → List Int → List (List Int) → List Int → Int → Int → Int → List (S33) → Option ((List (List Int)))
 | 0, _, _, _, _, _, _, _ => none
 | k + 1, x2, x7, x27, x28, x29, x102000, x102001 => if x29 < x28 then (if 0 ≤ x29 then (if x29 < (x27.length : Int) then ((impl_Net_from.f k x102000 x102001 (rd x27 x29)).bind fun t108 => (if 0 ≤ (x2.length : Int) then (if ((x2.length : Int) : Int).toNat ≤ 35184372088832 then (impl_ManyAll.l1 k x2 x7 t108 (([] : List Int)) x27 x28 x29 x2 (x2.length : Int) 0 x102000 x102001) else (none)) else (none))) else (none)) else (none)) else (some x7)
def impl_ManyAll.l1 : Nat → List Int → List (List Int) → List Int → List Int → List Int → Int → Int → List Int → Int → Int → Int → List (S33) → Option ((List (List Int)))
 | 0, _, _, _, _, _, _, _, _, _, _, _, _ => none
 | k + 1, x2, x7, x10, x11, x27, x28, x29, x39, x40, x41, x102000, x102001 => if x41 < x40 then (if 0 ≤ x41 then (if x41 < (x39.length : Int) then (if 0 ≤ (rd x39 x41) then (if (rd x39 x41) < (x10.length : Int) then (if x11.length < 17592186044416 then (impl_ManyAll.l1 k x2 x7 x10 (x11 ++ [rd x10 (rd x39 x41)]) x27 x28 x29 x39 x40 (wrap64 (x41 + 1)) x102000 x102001) else (none)) else (none)) else (none)) else (none)) else (none)) else (if x7.length < 5864062014805 then (impl_ManyAll.l0 k x2 (x7 ++ [x11]) x27 x28 (wrap64 (x29 + 1)) x102000 x102001) else (none))
end
def impl_ManyAll.f (k : Nat) (a0_0 : Int) (l0_1 : List (S33)) (l1 : List Int) (l2 : List Int) : Option ((List (List Int))) := (impl_listOk.f a0_0 l0_1 l1).bind fun t102 => (if t102 = true then ((impl_listOk.f a0_0 l0_1 l2).bind fun t103 => (impl_ManyAll.j0 k l1 l2 (!t103) a0_0 l0_1)) else (impl_ManyAll.j0 k l1 l2 true a0_0 l0_1))
set_option maxHeartbeats 8000000 in
set_option maxRecDepth 100000 in
theorem impl_ManyAll.calls (k : Nat) (a0_0 : Int) (A0_1 : Option Addr) (c0_1 : Nat) (l0_1 : List (S33)) (A1 : Option Addr) (c1 : Nat) (l1 : List Int) (A2 : Option Addr) (c2 : Nat) (l2 : List Int) (r : List (List Int)) (w : World) (hr0_1 : Kd.C k33 w A0_1 l0_1.length l0_1) (hc0_1 : l0_1.length ≤ c0_1) (hr1 : Kd.C (Kd.int .i64) w A1 l1.length l1) (hc1 : l1.length ≤ c1) (hr2 : Kd.C (Kd.int .i64) w A2 l2.length l2) (hc2 : l2.length ≤ c2) (h : impl_ManyAll.f k a0_0 l0_1 l1 l2 = some r) :
  Calls Try.prog 43 #[.agg #[.int .i64 a0_0, .slice A0_1 l0_1.length c0_1], .slice A1 l1.length c1, .slice A2 l2.length c2] w fun e w' => ∃ v0_ : Value, e = .returned (v0_) ∧ Kd.S (Kd.slice 3 (Kd.int .i64)) 26 w' w.heap.size (fun _ => True) v0_ r ∧ Below w.heap.size w w' := by
 have hu25 := Try.underlying25
 have HR0_1 := Aside0.mk hr0_1
 have HC0_1 := Aside0.mk hc0_1
 clear hr0_1 hc0_1
 have HR1 := Aside0.mk hr1
 have HC1 := Aside0.mk hc1
 clear hr1 hc1
 have HR2 := Aside0.mk hr2
 have HC2 := Aside0.mk hc2
 clear hr2 hc2
 have HB := Aside0.mk (Below.refl w.heap.size w)
 have H : ((impl_listOk.f a0_0 l0_1 l1).bind fun t102 => (if t102 = true then ((impl_listOk.f a0_0 l0_1 l2).bind fun t103 => (impl_ManyAll.j0 k l1 l2 (!t103) a0_0 l0_1)) else (impl_ManyAll.j0 k l1 l2 true a0_0 l0_1))) = some r := h
 clear h
 have HC4 := Aside0.mk H
 clear H
 go_enter Try.func43, Try.ntmps43
 go_upto_region 1 with (first | ((with_reducible refine gate_dst (N := 3) rfl ?_); refine be (cs := #[.int .i64 a0_0, .slice A0_1 l0_1.length c0_1]) (t := 25) ?_; intro gb101 hg w5 hbox hb; have BK101 := Aside0.mk (hbox); have GW101 := gz w hg (uB0 HB); have GE101 := gz w hg (uB0 HB); replace HB := Aside0.mk (below_step (uB0 HB) hb); clear hb hbox hg))
 (try simp only [Act.put, List.setIfInBounds_toArray, List.set_cons_zero, List.set_cons_succ])
 go_cut [23] (fun v23 wc => ∃ (kq : Nat) (x23_3 : Bool), v23 = .bool x23_3 ∧ Aside0 (impl_ManyAll.j0 kq l1 l2 x23_3 a0_0 l0_1 = some r) ∧ Aside0 (kq ≤ k) ∧ Aside0 (wc.heap[gb101]? = some (.cells #[.int .i64 a0_0, (.slice A0_1 l0_1.length c0_1)] 25 (0, 0))) ∧ Aside0 (Below w.heap.size w wc))
 case first =>
  have H := HC4.out; clear HC4; replace H := Option.bind_eq_some_iff.mp H; obtain ⟨t102, A60, H⟩ := H; replace H : (if t102 = true then ((impl_listOk.f a0_0 l0_1 l2).bind fun t103 => (impl_ManyAll.j0 k l1 l2 (!t103) a0_0 l0_1)) else (impl_ManyAll.j0 k l1 l2 true a0_0 l0_1)) = some r := H; have A6 := Aside0.mk A60; clear A60; by_cases c7 : t102 = true
  ·
   subst c7; rw [if_pos rfl] at H; replace H := Option.bind_eq_some_iff.mp H; obtain ⟨t103, A80, H⟩ := H; replace H : (impl_ManyAll.j0 k l1 l2 (!t103) a0_0 l0_1) = some r := H; have A8 := Aside0.mk A80; clear A80; have H' := Aside0.mk H; clear H; obtain ⟨hcz9_0, hcz9_1, hfz9_0, hfz9_1⟩ := bc2 BK101; go_wp2_with (first | ((with_reducible refine gate_callee (f := 88) rfl ?_); refine goesL_ (some 16) rfl rfl Try.func88 (by kernel_rfl) rfl #[.agg #[.int .i64 a0_0, .slice A0_1 l0_1.length c0_1], .slice A1 l1.length c1] rfl ul ?_; (with_reducible refine (impl_listOk.calls a0_0 _ _ l0_1 _ _ l1 true _ ?side1 ?side2 ?side3 ?side4 A6.out).mono ?_); (case side1 => exact uC HR0_1 HB); (case side2 => exact HC0_1.out); (case side3 => exact uC HR1 HB); (case side4 => exact HC1.out); rintro e w10 ⟨rfl, hb⟩; refine ⟨_, rfl, ?_⟩; replace BK101 := bb BK101 hb; replace HB := Aside0.mk (below_step (uB1 HB GE101.out) hb); (try clear hb); (try clear hb2); (try clear hk); (try clear hi); obtain ⟨hcz11_0, hcz11_1, hfz11_0, hfz11_1⟩ := bc2 BK101) | (go_at_call 88; (with_reducible refine (impl_listOk.calls a0_0 _ _ l0_1 _ _ l2 t103 _ ?side1 ?side2 ?side3 ?side4 A8.out).mono ?_); (case side1 => exact uC HR0_1 HB); (case side2 => exact HC0_1.out); (case side3 => exact uC HR2 HB); (case side4 => exact HC2.out); rintro e w12 ⟨rfl, hb⟩; replace BK101 := bb BK101 hb; replace HB := Aside0.mk (below_step (uB1 HB GE101.out) hb); (try clear hb); (try clear hb2); (try clear hk); (try clear hi))); go_meet
   case rel => exact ⟨_, (!t103), ue, H', ⟨by first | omega | exact Nat.le_refl _⟩, ⟨ub BK101⟩, ⟨uB1 HB GE101.out⟩⟩
  ·
   replace c7 := Bool.eq_false_iff.mpr c7; subst c7; rw [if_neg (show ¬ (false = true) by decide)] at H; have H' := Aside0.mk H; clear H; obtain ⟨hcz13_0, hcz13_1, hfz13_0, hfz13_1⟩ := bc2 BK101; go_wp2_with (first | ((with_reducible refine gate_callee (f := 88) rfl ?_); refine goesL_ (some 16) rfl rfl Try.func88 (by kernel_rfl) rfl #[.agg #[.int .i64 a0_0, .slice A0_1 l0_1.length c0_1], .slice A1 l1.length c1] rfl ul ?_; (with_reducible refine (impl_listOk.calls a0_0 _ _ l0_1 _ _ l1 false _ ?side1 ?side2 ?side3 ?side4 A6.out).mono ?_); (case side1 => exact uC HR0_1 HB); (case side2 => exact HC0_1.out); (case side3 => exact uC HR1 HB); (case side4 => exact HC1.out); rintro e w14 ⟨rfl, hb⟩; refine ⟨_, rfl, ?_⟩; replace BK101 := bb BK101 hb; replace HB := Aside0.mk (below_step (uB1 HB GE101.out) hb); (try clear hb); (try clear hb2); (try clear hk); (try clear hi))); go_meet
   case rel => exact ⟨_, (true), ue, H', ⟨by first | omega | exact Nat.le_refl _⟩, ⟨ub BK101⟩, ⟨uB1 HB GE101.out⟩⟩
 case rest =>
  clear HC4; try clear c1
  try clear c2
  try clear p2
  try clear c4
  try clear c7
  try clear c8
  try clear hcz11_0 hcz11_1
  try clear hcz13_0 hcz13_1
  try clear hcz9_0 hcz9_1
  try clear hfz11_0 hfz11_1
  try clear hfz13_0 hfz13_1
  try clear hfz9_0 hfz9_1
  obtain ⟨kq, x23_3, rfl, HA, HJ3, BK101, HB⟩ := hcut
  cases kq with
  | zero => exact absurd HA.out (by simp [impl_ManyAll.j0])
  | succ kj3 =>
   have H := HA.out; clear HA; simp only [impl_ManyAll.j0] at H; by_cases c15 : x23_3 = true
   ·
    subst c15; rw [if_pos rfl] at H; obtain rfl := Option.some.inj H; go_wp2; go_ret; exact ⟨_, by first | rfl | (simp [errW_none, errW_some] <;> rfl) | (simp [*, errW_none, errW_some] <;> rfl), by first | exact Kd.S_nil _ _ _ _ _ | exact Kd.N_nil _ _ _ _ _ | exact Kd.V_nil _ _ _ _ _ | exact Kd.Q_nil _ _ _ _ _ | exact Kd.R_nil _ _ _ _ _, uB1 HB GE101.out⟩
   ·
    replace c15 := Bool.eq_false_iff.mpr c15; subst c15; rw [if_neg (show ¬ (false = true) by decide)] at H; by_cases c16 : 0 ≤ (l1.length : Int)
    ·
     rw [if_pos c16] at H; have c16b0 := eq_true c16; have c16b1 := de c16; clear c16; by_cases c17 : ((l1.length : Int) : Int).toNat ≤ 11728124029610
     ·
      rw [if_pos c17] at H; have c17b0 := eq_true c17; have c17b1 := de c17; clear c17; obtain ⟨y104, hy104⟩ : ∃ y_ : List (List Int), y_ = (([] : List (List Int))) := ⟨_, rfl⟩
      replace H : (impl_ManyAll.l0 kj3 l2 y104 l1 (l1.length : Int) 0 a0_0 l0_1) = some r := by first | (rw [hy104]; with_reducible exact H) | (have H2_ := (Option.bind_some _ _).symm.trans H; rw [hy104]; with_reducible exact H2_) | (have H2_ := (Option.bind_some _ _).symm.trans H; with_reducible exact H2_) | with_reducible exact H | (rw [hy104]; exact H) | exact H
      have Ny104 := Aside0.mk hy104; clear hy104; have H' := Aside0.mk H; clear H; go_wp2_with (first | ((with_reducible refine gate_dst (N := 26) rfl ?_); refine Kd.S_room (Kd.slice 3 (Kd.int .i64)) _ 26 rfl (N := 26) rfl 53 _ _ rfl (l1.length : Int) rfl rfl Try.underlying53 (.slice none 0 0) 24 info26 rfl (by omega) (ok := fun _ => True) trivial (ua) (Nat.le_trans (Nat.mul_le_mul_right _ (ua : (l1.length : Int).toNat ≤ 11728124029610)) (by omega)) (Below.refl _ _) (Nat.le_refl _) ?_; intro v105 w18 ho19 hb hg_ hnew_; clear hg_ hnew_; (first | rw [← Ny104.out] at ho19 | (simp only [Int.reduceToNat] at ho19; rw [← Ny104.out] at ho19)); have HO106 := Aside0.mk (Kd.S_lower ho19 (below_size (uB1 HB GE101.out))); replace BK101 := bb BK101 hb; replace HB := Aside0.mk (below_step (uB1 HB GE101.out) hb); clear hb ho19)); go_loopg [7, 29] kj3 (fun kq v7 v29 w' => ∃ (x7_2 : List (List Int)) (x29_2 : Int), v29 = .int .i64 x29_2 ∧ Aside0 (impl_ManyAll.l0 kq l2 x7_2 l1 (l1.length : Int) x29_2 a0_0 l0_1 = some r) ∧ Aside0 (kq ≤ kj3) ∧ Aside0 (Kd.S (Kd.slice 3 (Kd.int .i64)) 26 w' w.heap.size (fun _ => True) v7 x7_2) ∧ Aside0 (w'.heap[gb101]? = some (.cells #[.int .i64 a0_0, (.slice A0_1 l0_1.length c0_1)] 25 (0, 0))) ∧ Aside0 (Below w.heap.size w w'))
      case atStart => exact ⟨(y104), (0), ue, H', ⟨Nat.le_refl _⟩, ⟨by (with_reducible repeat (first | apply Kd.S_alloc | apply Kd.S_drewN | apply Kd.S_drew)); exact HO106.out⟩, ⟨ub BK101⟩, ⟨uB1 HB GE101.out⟩⟩
      case round =>
       clear H'; try clear c1
       try clear c2
       try clear p2
       try clear c4
       try clear c7
       try clear c8
       try clear c15
       try clear c16
       try clear c16b0
       try clear c16b1
       try clear c17
       try clear c17b0
       try clear c17b1
       try clear hcz11_0 hcz11_1
       try clear hcz13_0 hcz13_1
       try clear hcz9_0 hcz9_1
       try clear hfz11_0 hfz11_1
       try clear hfz13_0 hfz13_1
       try clear hfz9_0 hfz9_1
       try clear p2
       obtain ⟨x7_2, x29_2, rfl, HA, HK2, HO_7, BK101, HB⟩ := hrel
       cases gk with
       | zero => exact absurd HA.out (by simp [impl_ManyAll.l0])
       | succ k2 =>
        have H := HA.out; clear HA; simp only [impl_ManyAll.l0] at H; by_cases c20 : x29_2 < (l1.length : Int)
        ·
         rw [if_pos c20] at H; have c20b0 := dl c20; clear c20; by_cases c21 : 0 ≤ x29_2
         ·
          rw [if_pos c21] at H; have c21b0 := de c21; clear c21; by_cases c22 : x29_2 < (l1.length : Int)
          ·
           rw [if_pos c22] at H; have c22b0 := dl c22; clear c22; replace H := Option.bind_eq_some_iff.mp H; obtain ⟨t108, A230, H⟩ := H; replace H : (if 0 ≤ (l2.length : Int) then (if ((l2.length : Int) : Int).toNat ≤ 35184372088832 then (impl_ManyAll.l1 k2 l2 x7_2 t108 (([] : List Int)) l1 (l1.length : Int) x29_2 l2 (l2.length : Int) 0 a0_0 l0_1) else (none)) else (none)) = some r := H; have A23 := Aside0.mk A230; clear A230; by_cases c24 : 0 ≤ (l2.length : Int)
           ·
            rw [if_pos c24] at H; have c24b0 := eq_true c24; have c24b1 := de c24; clear c24; by_cases c25 : ((l2.length : Int) : Int).toNat ≤ 35184372088832
            ·
             rw [if_pos c25] at H; have c25b0 := eq_true c25; have c25b1 := de c25; clear c25; obtain ⟨y111, hy111⟩ : ∃ y_ : List Int, y_ = (([] : List Int)) := ⟨_, rfl⟩
             replace H : (impl_ManyAll.l1 k2 l2 x7_2 t108 y111 l1 (l1.length : Int) x29_2 l2 (l2.length : Int) 0 a0_0 l0_1) = some r := by first | (rw [hy111]; with_reducible exact H) | (have H2_ := (Option.bind_some _ _).symm.trans H; rw [hy111]; with_reducible exact H2_) | (have H2_ := (Option.bind_some _ _).symm.trans H; with_reducible exact H2_) | with_reducible exact H | (rw [hy111]; exact H) | exact H
             have Ny111 := Aside0.mk hy111; clear hy111; have H' := Aside0.mk H; clear H; have p107 : 0 ≤ (x29_2 : Int) := ua; have q107 : x29_2 < (l1.length : Int) := ua; obtain ⟨ad107, e107, hx107_0⟩ := Kd.at_int HR1.out x29_2 p107 q107
             cases e107
             replace hx107_0 := uc HB hx107_0; replace p107 := eq_true p107; replace q107 := eq_true q107; obtain ⟨hcz26_0, hcz26_1, hfz26_0, hfz26_1⟩ := bc2 BK101; go_wp2_with (first | ((with_reducible refine gate_callee (f := 89) rfl ?_); refine goesL_ (some 35) rfl rfl Try.func89 (by kernel_rfl) rfl #[.agg #[.int .i64 a0_0, .slice A0_1 l0_1.length c0_1], .int .i64 (rd l1 x29_2)] rfl ul ?_; (with_reducible refine (impl_Net_from.calls k2 a0_0 _ _ l0_1 (rd l1 x29_2) t108 _ ?side1 ?side2 A23.out).mono ?_); (case side1 => exact uC HR0_1 HB); (case side2 => exact HC0_1.out); rintro e w27 ⟨v109, rfl, ho0, hb⟩; refine ⟨_, rfl, ?_⟩; replace HO_7 := Aside0.mk (Kd.S_elder' (by (with_reducible repeat (first | apply Kd.S_alloc | apply Kd.S_drewN | apply Kd.S_drew)); exact HO_7.out) (Kd.R_base ho0) hb); have HO110 := Aside0.mk (Kd.R_lower ho0 (below_size (uB1 HB GE101.out))); replace BK101 := bb BK101 hb; replace HB := Aside0.mk (below_step (uB1 HB GE101.out) hb); (try clear hb); (try clear hb2); (try clear hk); (try clear hi); (try clear ho0)) | ((with_reducible refine gate_dst (N := 38) rfl ?_); refine Kd.R_room (Kd.int .i64) _ 3 rfl (N := 38) rfl 26 _ _ rfl (l2.length : Int) rfl rfl Try.underlying26 (.int .i64 0) 8 info3 rfl (by omega) (ok := fun _ => True) trivial (ua) (Nat.le_trans (Nat.mul_le_mul_right _ (ua : (l2.length : Int).toNat ≤ 35184372088832)) (by omega)) (Below.refl _ _) (Nat.le_refl _) ?_; intro v112 w28 ho29 hb hg_ hnew_; clear hg_ hnew_; (first | rw [← Ny111.out] at ho29 | (simp only [Int.reduceToNat] at ho29; rw [← Ny111.out] at ho29)); replace HO_7 := Aside0.mk (Kd.S_elder' (by (with_reducible repeat (first | apply Kd.S_alloc | apply Kd.S_drewN | apply Kd.S_drew)); exact HO_7.out) (Kd.R_base ho29) hb); have HO113 := Aside0.mk (Kd.R_lower (Kd.R_new' ho29 (Kd.R_lt (ur HO110))) (below_size (uB1 HB GE101.out))); replace HO110 := Aside0.mk (Kd.R_elder' (ur HO110) (Kd.R_base ho29) hb); replace BK101 := bb BK101 hb; replace HB := Aside0.mk (below_step (uB1 HB GE101.out) hb); clear hb ho29)); go_loopg [11, 41] k2 (fun kq v11 v41 w' => ∃ (x11_3 : List Int) (x41_3 : Int), v41 = .int .i64 x41_3 ∧ Aside0 (impl_ManyAll.l1 kq l2 x7_2 t108 x11_3 l1 (l1.length : Int) x29_2 l2 (l2.length : Int) x41_3 a0_0 l0_1 = some r) ∧ Aside0 (kq ≤ k2) ∧ Aside0 (Kd.S (Kd.slice 3 (Kd.int .i64)) 26 w' w.heap.size (fun k_ => some k_ ≠ (v109 : Value).ownBlock ∧ some k_ ≠ (v11 : Value).ownBlock) u7 x7_2) ∧ Aside0 (Kd.R (Kd.int .i64) 3 w' w.heap.size (fun k_ => some k_ ≠ (v11 : Value).ownBlock) v109 t108) ∧ Aside0 (Kd.R (Kd.int .i64) 3 w' w.heap.size (fun k_ => some k_ ≠ (v109 : Value).ownBlock) v11 x11_3) ∧ Aside0 (w'.heap[gb101]? = some (.cells #[.int .i64 a0_0, (.slice A0_1 l0_1.length c0_1)] 25 (0, 0))) ∧ Aside0 (Below w.heap.size w w'))
             case atStart => exact ⟨(y111), (0), ue, H', ⟨Nat.le_refl _⟩, ⟨by (with_reducible repeat (first | apply Kd.S_alloc | apply Kd.S_drewN | apply Kd.S_drew)); exact Kd.S_mono HO_7.out (fun _ hk => ⟨hk.1.2, hk.2⟩)⟩, ⟨by (with_reducible repeat (first | apply Kd.R_alloc | apply Kd.R_drewN | apply Kd.R_drew)); exact Kd.R_mono HO110.out (fun _ hk => hk.2)⟩, ⟨by (with_reducible repeat (first | apply Kd.R_alloc | apply Kd.R_drewN | apply Kd.R_drew)); exact Kd.R_mono HO113.out (fun _ hk => hk.2)⟩, ⟨ub BK101⟩, ⟨uB1 HB GE101.out⟩⟩
             case round =>
              clear H'; try clear c1
              try clear p1
              try clear q1
              try clear hx1
              try clear c2
              try clear p2
              try clear c4
              try clear c7
              try clear c8
              try clear p10
              try clear q10
              try clear hx10
              try clear c15
              try clear c16
              try clear c16b0
              try clear c16b1
              try clear c17
              try clear c17b0
              try clear c17b1
              try clear c20
              try clear c20b0
              try clear c21
              try clear c21b0
              try clear c22
              try clear c22b0
              try clear c24
              try clear c24b0
              try clear c24b1
              try clear c25
              try clear c25b0
              try clear c25b1
              try clear hcz11_0 hcz11_1
              try clear hcz13_0 hcz13_1
              try clear hcz26_0 hcz26_1
              try clear hcz9_0 hcz9_1
              try clear hfz11_0 hfz11_1
              try clear hfz13_0 hfz13_1
              try clear hfz26_0 hfz26_1
              try clear hfz9_0 hfz9_1
              try clear hx107_0
              try clear p107
              try clear p2
              try clear q107
              obtain ⟨x11_3, x41_3, rfl, HA, HK3, HO_7, HO_10, HO_11, BK101, HB⟩ := hrel
              cases gk with
              | zero => exact absurd HA.out (by simp [impl_ManyAll.l1])
              | succ k3 =>
               have H := HA.out; clear HA; simp only [impl_ManyAll.l1] at H; by_cases c30 : x41_3 < (l2.length : Int)
               ·
                rw [if_pos c30] at H; have c30b0 := dl c30; clear c30; by_cases c31 : 0 ≤ x41_3
                ·
                 rw [if_pos c31] at H; have c31b0 := de c31; clear c31; by_cases c32 : x41_3 < (l2.length : Int)
                 ·
                  rw [if_pos c32] at H; have c32b0 := dl c32; clear c32; by_cases c33 : 0 ≤ (rd l2 x41_3)
                  ·
                   rw [if_pos c33] at H; have c33b0 := de c33; clear c33; by_cases c34 : (rd l2 x41_3) < (t108.length : Int)
                   ·
                    rw [if_pos c34] at H; have c34b0 := dl c34; clear c34; by_cases c35 : x11_3.length < 17592186044416
                    ·
                     rw [if_pos c35] at H; have LMc35 := Aside0.mk c35; clear c35; obtain ⟨y116, hy116⟩ : ∃ y_ : List Int, y_ = (x11_3 ++ [rd t108 (rd l2 x41_3)]) := ⟨_, rfl⟩
                     replace H : (impl_ManyAll.l1 k3 l2 x7_2 t108 y116 l1 (l1.length : Int) x29_2 l2 (l2.length : Int) (wrap64 (x41_3 + 1)) a0_0 l0_1) = some r := by first | (rw [hy116]; with_reducible exact H) | (have H2_ := (Option.bind_some _ _).symm.trans H; rw [hy116]; with_reducible exact H2_) | (have H2_ := (Option.bind_some _ _).symm.trans H; with_reducible exact H2_) | with_reducible exact H | (rw [hy116]; exact H) | exact H
                     have Ny116 := Aside0.mk hy116; clear hy116; have H' := Aside0.mk H; clear H; have p114 : 0 ≤ (x41_3 : Int) := ua; have q114 : x41_3 < (l2.length : Int) := ua; obtain ⟨ad114, e114, hx114_0⟩ := Kd.at_int HR2.out x41_3 p114 q114
                     cases e114
                     replace hx114_0 := uc HB hx114_0; replace p114 := eq_true p114; replace q114 := eq_true q114; obtain ⟨Ao36, co36, eo36⟩ := Kd.R_slice HO_10.out; subst eo36; have p115 : 0 ≤ ((rd l2 x41_3) : Int) := ua; have q115 : (rd l2 x41_3) < (t108.length : Int) := ua; obtain ⟨ad115, e115, hx115_0⟩ := Kd.at_int (Kd.R_reads' HO_10.out).2.2 (rd l2 x41_3) p115 q115
                     cases e115
                     replace p115 := eq_true p115; replace q115 := eq_true q115; go_wp2_with (first | ((with_reducible refine gate_builtin (b := .append) (xs := #[.tmp 45, .tmp 50]) rfl ?_); at_builtin; refine Kd.R_append (Kd.int .i64) (w0 := w) w.heap.size rfl (.tmp 45) (.tmp 50) 26 3 (.int .i64 0) 8 rfl Try.underlying26 info3 rfl (by decide) (by omega) u11 x11_3 (rd t108 (rd l2 x41_3)) [.int .i64 (rd t108 (rd l2 x41_3))] (fun k_ => some k_ ≠ (.slice (some ad115) t108.length co36 : Value).ownBlock) (fun _ => False) rfl rfl ?aP (fun _ hk => hk.elim) ?aF ?aO ?aB ?aS ?aL ?_; (case aP => exact rfl); (case aB => exact (uB1 HB GE101.out)); (case aF => exact (fun k_ hk => Kd.fresh' (Kd.R_lt (ur HO_10)) k_ hk)); (case aO => exact (ur HO_11)); (case aS => exact (below_size (uB1 HB GE101.out))); (case aL => have := LMc35.out; omega); intro v117 w37 ho hb hg hat; rw [← Ny116.out] at ho; replace HO_7 := Aside0.mk (Kd.S_after (ok := (fun k_ => some k_ ≠ (.slice (some ad115) t108.length co36 : Value).ownBlock)) (by (with_reducible repeat (first | apply Kd.S_alloc | apply Kd.S_drewN | apply Kd.S_drew)); exact HO_7.out) hg hat); replace HO_10 := Aside0.mk (Kd.R_after (ok := (fun _ => True)) (by (with_reducible repeat (first | apply Kd.R_alloc | apply Kd.R_drewN | apply Kd.R_drew)); exact Kd.R_mono HO_10.out (fun _ hk => ⟨trivial, hk⟩)) hg hat); replace BK101 := bg BK101 hg (Kd.R_ne HO_11.out BK101.out (by decide)); replace HB := Aside0.mk (hb); have HO118 := Aside0.mk (ho); clear HO_11; clear ho hb hg hat)); go_roundg k3
                     case measure => have := HJ3.out; have := HK2.out; have := HK3.out; omega
                     case rel => exact ⟨(y116), (wrap64 (x41_3 + 1)), ue, H', ⟨by have := HJ3.out; have := HK2.out; have := HK3.out; omega⟩, ⟨by (with_reducible repeat (first | apply Kd.S_alloc | apply Kd.S_drewN | apply Kd.S_drew)); exact HO_7.out⟩, ⟨by (with_reducible repeat (first | apply Kd.R_alloc | apply Kd.R_drewN | apply Kd.R_drew)); exact Kd.R_mono HO_10.out (fun _ hk => hk.2)⟩, ⟨ur HO118⟩, ⟨ub BK101⟩, ⟨uB1 HB GE101.out⟩⟩
                    ·
                     rw [if_neg c35] at H; exact absurd H (by simp)
                   ·
                    rw [if_neg c34] at H; exact absurd H (by simp)
                  ·
                   rw [if_neg c33] at H; exact absurd H (by simp)
                 ·
                  rw [if_neg c32] at H; exact absurd H (by simp)
                ·
                 rw [if_neg c31] at H; exact absurd H (by simp)
               ·
                rw [if_neg c30] at H; have c30b0 := DL c30; clear c30; by_cases c38 : x7_2.length < 5864062014805
                ·
                 rw [if_pos c38] at H; have LMc38 := Aside0.mk c38; clear c38; obtain ⟨y119, hy119⟩ : ∃ y_ : List (List Int), y_ = (x7_2 ++ [x11_3]) := ⟨_, rfl⟩
                 replace H : (impl_ManyAll.l0 k3 l2 y119 l1 (l1.length : Int) (wrap64 (x29_2 + 1)) a0_0 l0_1) = some r := by first | (rw [hy119]; with_reducible exact H) | (have H2_ := (Option.bind_some _ _).symm.trans H; rw [hy119]; with_reducible exact H2_) | (have H2_ := (Option.bind_some _ _).symm.trans H; with_reducible exact H2_) | with_reducible exact H | (rw [hy119]; exact H) | exact H
                 have Ny119 := Aside0.mk hy119; clear hy119; have H' := Aside0.mk H; clear H; obtain ⟨Ao40, co40, eo40⟩ := Kd.R_slice HO_11.out; subst eo40; go_wp2_with (first | ((with_reducible refine gate_builtin (b := .append) (xs := #[.tmp 53, .tmp 55]) rfl ?_); at_builtin; refine Kd.S_append (Kd.slice 3 (Kd.int .i64)) (w0 := w) w.heap.size rfl (.tmp 53) (.tmp 55) 53 26 (.slice none 0 0) 24 rfl Try.underlying53 info26 rfl (by decide) (by omega) u7 x7_2 x11_3 [.slice Ao40 x11_3.length co40] (fun k_ => some k_ ≠ (v109 : Value).ownBlock) (fun k_ => some k_ = (.slice Ao40 x11_3.length co40 : Value).ownBlock) rfl rfl ?aP (fun k_ hk_ => ((Kd.R_mono (ok' := fun k_ => ((fun k_ => some k_ ≠ (v109 : Value).ownBlock)) k_ ∧ some k_ ≠ (u7 : Value).ownBlock) (Kd.R_apart' (HO_11.out) (Kd.S_typed HO_7.out) (by decide)) (fun k_ hk => ⟨hk.1, hk.2⟩))).1 k_ hk_.symm) ?aF ?aO ?aB ?aS ?aL ?_; (case aP => exact Kd.M_row (Kd.R_mono (Kd.R_tight rfl (Kd.R_mono (ok' := fun k_ => ((fun k_ => some k_ ≠ (v109 : Value).ownBlock)) k_ ∧ some k_ ≠ (u7 : Value).ownBlock) (Kd.R_apart' (HO_11.out) (Kd.S_typed HO_7.out) (by decide)) (fun k_ hk => ⟨hk.1, hk.2⟩))) (fun _ h_ => h_))); (case aB => exact (uB1 HB GE101.out)); (case aF => exact (fun k_ hk => Kd.fresh' (Kd.R_lt (ur HO_10)) k_ hk)); (case aO => exact (by (with_reducible repeat (first | apply Kd.S_alloc | apply Kd.S_drewN | apply Kd.S_drew)); exact Kd.S_mono HO_7.out (fun k_ hk => ⟨hk.1, fun e_ => hk.2 e_⟩))); (case aS => exact (below_size (uB1 HB GE101.out))); (case aL => have := LMc38.out; omega); intro v120 w39 ho hb hg hat; rw [← Ny119.out] at ho; replace HO_10 := Aside0.mk (Kd.R_over' (ur HO_10) (Kd.S_typed (by (with_reducible repeat (first | apply Kd.S_alloc | apply Kd.S_drewN | apply Kd.S_drew)); exact HO_7.out)) (by decide) hg); replace BK101 := Aside0.mk (blk_grown (g := gb101) (o := .cells #[.int .i64 a0_0, .slice A0_1 l0_1.length c0_1] 25 (0, 0)) (ub BK101) hg (Kd.S_ne HO_7.out BK101.out (by decide))); replace HB := Aside0.mk (hb); have HO121 := Aside0.mk (ho); clear HO_7; clear HO_11; clear ho hb hg hat)); go_roundg k3
                 case measure => have := HJ3.out; have := HK2.out; have := HK3.out; omega
                 case rel => exact ⟨(y119), (wrap64 (x29_2 + 1)), ue, H', ⟨by have := HJ3.out; have := HK2.out; have := HK3.out; omega⟩, ⟨by (with_reducible repeat (first | apply Kd.S_alloc | apply Kd.S_drewN | apply Kd.S_drew)); exact Kd.S_mono HO121.out (fun _ hk => trivial)⟩, ⟨ub BK101⟩, ⟨uB1 HB GE101.out⟩⟩
                ·
                 rw [if_neg c38] at H; exact absurd H (by simp)
            ·
             rw [if_neg c25] at H; exact absurd H (by simp)
           ·
            rw [if_neg c24] at H; exact absurd H (by simp)
          ·
           rw [if_neg c22] at H; exact absurd H (by simp)
         ·
          rw [if_neg c21] at H; exact absurd H (by simp)
        ·
         rw [if_neg c20] at H; have c20b0 := DL c20; clear c20; obtain rfl := Option.some.inj H; go_wp2; go_ret; exact ⟨_, by first | rfl | (simp [errW_none, errW_some] <;> rfl) | (simp [*, errW_none, errW_some] <;> rfl), by (with_reducible repeat (first | apply Kd.S_alloc | apply Kd.S_drewN | apply Kd.S_drew)); exact HO_7.out, uB1 HB GE101.out⟩
     ·
      rw [if_neg c17] at H; exact absurd H (by simp)
    ·
     rw [if_neg c16] at H; exact absurd H (by simp)

end Go.Proofs.Ytblpdfgplifccaa.P
