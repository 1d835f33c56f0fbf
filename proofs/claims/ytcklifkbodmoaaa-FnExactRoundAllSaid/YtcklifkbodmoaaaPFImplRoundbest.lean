-- written for this claim by a program (wip/gen/myprint.py over the print tool). Not trusted: Lean checks it.
import Derived.Test.YtcklifkbodmoaaaPx0
import Derived.Test.YtcklifkbodmoaaaHUp
import Derived.Test.YtcklifkbodmoaaaGPBase
import Derived.Test.YtcklifkbodmoaaaPFImplPlanArrivals
import Derived.Test.YtcklifkbodmoaaaPFImplPlanRides
namespace Go.Proofs.Ytcklifkbodmoaaa.P
open Go.RowKit Go.Proofs.YtcklifkbodmoaaaV.PrintWords Go.Proofs.YtcklifkbodmoaaaV.PrintLast
set_option linter.unusedVariables false
set_option linter.unusedSimpArgs false

/-! ### impl_RoundBest: function 28 -/
mutual
def impl_RoundBest.j0 : Nat → Int → Int → Int → Bool → Int → Int → List (S32) → Option ((List (S43)))
 | 0, _, _, _, _, _, _, _ => none
 | k + 1, x1, x2, x3, x24, x102000, x102001, x102002 => if x24 = true then (some ([] : List (S43))) else ((impl_Plan_rides.f k x102000 x102001 x102002 x1 x3).bind fun t104 => (if 7 ≤ 17592186044416 then (impl_RoundBest.l0 k x1 x2 x3 t104 (([] : List (S43))) 99999 0 x102000 x102001 x102002) else (none)))
def impl_RoundBest.l0 : Nat → Int → Int → Int → List Int → List (S43) → Int → Int → Int → Int → List (S32) → Option ((List (S43)))
 | 0, _, _, _, _, _, _, _, _, _, _ => none
 | k + 1, x1, x2, x3, x9, x10, x11, x30, x102000, x102001, x102002 => if x30 < 7 then ((impl_Plan_arrivals.f k x102000 x102001 x102002 x9 x1 x3 x30).bind fun t110 => (if 0 ≤ x2 then (if x2 < (t110.length : Int) then (if (rd t110 x2) < x11 then (if x10.length < 8796093022208 then (impl_RoundBest.l0 k x1 x2 x3 x9 (x10 ++ [(⟨x30, rd t110 x2⟩ : S43)]) (rd t110 x2) (wrap64 (x30 + 1)) x102000 x102001 x102002) else (none)) else (impl_RoundBest.l0 k x1 x2 x3 x9 x10 x11 (wrap64 (x30 + 1)) x102000 x102001 x102002)) else (none)) else (none))) else (some (x10))
end
def impl_RoundBest.f (k : Nat) (a0_0 : Int) (a0_1 : Int) (l0_2 : List (S32)) (a1 : Int) (a2 : Int) (a3 : Int) : Option ((List (S43))) := (impl_planIn.f k a0_0 a0_1 l0_2 a1 a3).bind fun t102 => (if t102 = true then ((impl_Plan_stop.f a0_0 a0_1 l0_2 a2).bind fun t103 => (impl_RoundBest.j0 k a1 a2 a3 (!t103) a0_0 a0_1 l0_2)) else (impl_RoundBest.j0 k a1 a2 a3 true a0_0 a0_1 l0_2))
set_option maxHeartbeats 8000000 in
set_option maxRecDepth 100000 in
theorem impl_RoundBest.calls (k : Nat) (a0_0 : Int) (a0_1 : Int) (A0_2 : Option Addr) (c0_2 : Nat) (l0_2 : List (S32)) (a1 : Int) (a2 : Int) (a3 : Int) (r : List (S43)) (w : World) (hr0_2 : Kd.C k32 w A0_2 l0_2.length l0_2) (hc0_2 : l0_2.length ≤ c0_2) (h : impl_RoundBest.f k a0_0 a0_1 l0_2 a1 a2 a3 = some r) :
  Calls Try.prog 28 #[.agg #[.int .i64 a0_0, .int .i64 a0_1, .slice A0_2 l0_2.length c0_2], .int .i64 a1, .int .i64 a2, .int .i64 a3] w fun e w' => ∃ v0_ : Value, e = .returned (v0_) ∧ Kd.R k43 43 w' w.heap.size (fun _ => True) v0_ r ∧ Below w.heap.size w w' := by
 have hu25 := Try.underlying25
 have hu43 := Try.underlying43
 have HR0_2 := Aside0.mk hr0_2
 have HC0_2 := Aside0.mk hc0_2
 clear hr0_2 hc0_2
 have HB := Aside0.mk (Below.refl w.heap.size w)
 have H : ((impl_planIn.f k a0_0 a0_1 l0_2 a1 a3).bind fun t102 => (if t102 = true then ((impl_Plan_stop.f a0_0 a0_1 l0_2 a2).bind fun t103 => (impl_RoundBest.j0 k a1 a2 a3 (!t103) a0_0 a0_1 l0_2)) else (impl_RoundBest.j0 k a1 a2 a3 true a0_0 a0_1 l0_2))) = some r := h
 clear h
 have HC5 := Aside0.mk H
 clear H
 go_enter Try.func28, Try.ntmps28
 go_upto_region 1 with (((with_reducible refine gate_dst (N := 4) rfl ?_); refine be (cs := #[.int .i64 a0_0, .int .i64 a0_1, .slice A0_2 l0_2.length c0_2]) (t := 25) ?_; intro gb101 hg w6 hbox hb; have BK101 := Aside0.mk (hbox); have GW101 := gz w hg (uB0 HB); have GE101 := gz w hg (uB0 HB); replace HB := Aside0.mk (below_step (uB0 HB) hb); clear hb hbox hg))
 go_cut [24] (fun v24 wc => ∃ (kq : Nat) (x24_4 : Bool), v24 = .bool x24_4 ∧ Aside0 (impl_RoundBest.j0 kq a1 a2 a3 x24_4 a0_0 a0_1 l0_2 = some r) ∧ Aside0 (kq ≤ k) ∧ Aside0 (wc.heap[gb101]? = some (.cells #[.int .i64 a0_0, .int .i64 a0_1, (.slice A0_2 l0_2.length c0_2)] 25 (0, 0))) ∧ Aside0 (Below w.heap.size w wc))
 case first =>
  have H := HC5.out; clear HC5; replace H := Option.bind_eq_some_iff.mp H; obtain ⟨t102, A70, H⟩ := H; replace H : (if t102 = true then ((impl_Plan_stop.f a0_0 a0_1 l0_2 a2).bind fun t103 => (impl_RoundBest.j0 k a1 a2 a3 (!t103) a0_0 a0_1 l0_2)) else (impl_RoundBest.j0 k a1 a2 a3 true a0_0 a0_1 l0_2)) = some r := H; have A7 := Aside0.mk A70; clear A70; by_cases c8 : t102 = true
  ·
   subst c8; rw [if_pos rfl] at H; replace H := Option.bind_eq_some_iff.mp H; obtain ⟨t103, A90, H⟩ := H; replace H : (impl_RoundBest.j0 k a1 a2 a3 (!t103) a0_0 a0_1 l0_2) = some r := H; have A9 := Aside0.mk A90; clear A90; have H' := Aside0.mk H; clear H; obtain ⟨hcz10_0, hcz10_1, hcz10_2, hfz10_0, hfz10_1, hfz10_2⟩ := bc3 BK101; go_wp2_with (first | ((with_reducible refine gate_callee (f := 62) rfl ?_); refine goesL_ (some 17) rfl rfl Try.func62 (by kernel_rfl) rfl #[.agg #[.int .i64 a0_0, .int .i64 a0_1, .slice A0_2 l0_2.length c0_2], .int .i64 a1, .int .i64 a3] rfl ul ?_; (with_reducible refine (impl_planIn.calls k a0_0 a0_1 _ _ l0_2 a1 a3 true _ ?side1 ?side2 A7.out).mono ?_); (case side1 => exact uC HR0_2 HB); (case side2 => exact HC0_2.out); rintro e w11 ⟨rfl, hb⟩; refine ⟨_, rfl, ?_⟩; replace BK101 := bb BK101 hb; replace HB := Aside0.mk (below_step (uB1 HB GE101.out) hb); (try clear hb); obtain ⟨hcz12_0, hcz12_1, hcz12_2, hfz12_0, hfz12_1, hfz12_2⟩ := bc3 BK101) | (go_at_call 69; (with_reducible refine (impl_Plan_stop.calls a0_0 a0_1 _ _ l0_2 a2 t103 _ ?side1 ?side2 A9.out).mono ?_); (case side1 => exact uC HR0_2 HB); (case side2 => exact HC0_2.out); rintro e w13 ⟨rfl, hb⟩; replace BK101 := bb BK101 hb; replace HB := Aside0.mk (below_step (uB1 HB GE101.out) hb); (try clear hb))); go_meet
   case rel => exact ⟨_, (!t103), ue, H', ⟨by first | omega | exact Nat.le_refl _⟩, ⟨ub BK101⟩, ⟨uB1 HB GE101.out⟩⟩
  ·
   replace c8 := Bool.eq_false_iff.mpr c8; subst c8; rw [if_neg (show ¬ (false = true) by decide)] at H; have H' := Aside0.mk H; clear H; obtain ⟨hcz14_0, hcz14_1, hcz14_2, hfz14_0, hfz14_1, hfz14_2⟩ := bc3 BK101; go_wp2_with (((with_reducible refine gate_callee (f := 62) rfl ?_); refine goesL_ (some 17) rfl rfl Try.func62 (by kernel_rfl) rfl #[.agg #[.int .i64 a0_0, .int .i64 a0_1, .slice A0_2 l0_2.length c0_2], .int .i64 a1, .int .i64 a3] rfl ul ?_; (with_reducible refine (impl_planIn.calls k a0_0 a0_1 _ _ l0_2 a1 a3 false _ ?side1 ?side2 A7.out).mono ?_); (case side1 => exact uC HR0_2 HB); (case side2 => exact HC0_2.out); rintro e w15 ⟨rfl, hb⟩; refine ⟨_, rfl, ?_⟩; replace BK101 := bb BK101 hb; replace HB := Aside0.mk (below_step (uB1 HB GE101.out) hb); (try clear hb))); go_meet
   case rel => exact ⟨_, (true), ue, H', ⟨by first | omega | exact Nat.le_refl _⟩, ⟨ub BK101⟩, ⟨uB1 HB GE101.out⟩⟩
 case rest =>
  clear HC5
  obtain ⟨kq, x24_4, rfl, HA, HJ4, BK101, HB⟩ := hcut
  cases kq with
  | zero => exact absurd HA.out (by simp [impl_RoundBest.j0])
  | succ kj4 =>
   have H := HA.out; clear HA; simp only [impl_RoundBest.j0] at H; by_cases c16 : x24_4 = true
   ·
    subst c16; rw [if_pos rfl] at H; obtain rfl := Option.some.inj H; go_wp2; go_ret; exact ⟨_, by first | rfl | (simp [errW_none, errW_some] <;> rfl) | (simp [*, errW_none, errW_some] <;> rfl), by first | exact Kd.R_nil _ _ _ _ _ | exact Kd.N_nil _ _ _ _ _ | exact Kd.V_nil _ _ _ _ _ | exact Kd.Q_nil _ _ _ _ _ | exact Kd.S_nil _ _ _ _ _, uB1 HB GE101.out⟩
   ·
    replace c16 := Bool.eq_false_iff.mpr c16; subst c16; rw [if_neg (show ¬ (false = true) by decide)] at H; replace H := Option.bind_eq_some_iff.mp H; obtain ⟨t104, A170, H⟩ := H; replace H : (if 7 ≤ 17592186044416 then (impl_RoundBest.l0 kj4 a1 a2 a3 t104 (([] : List (S43))) 99999 0 a0_0 a0_1 l0_2) else (none)) = some r := H; have A17 := Aside0.mk A170; clear A170; by_cases c18 : 7 ≤ 17592186044416
    ·
     rw [if_pos c18] at H; have c18b0 := eq_true c18; have c18b1 := de c18; clear c18; obtain ⟨y107, hy107⟩ : ∃ y_ : List (S43), y_ = (([] : List (S43))) := ⟨_, rfl⟩
     replace H : (impl_RoundBest.l0 kj4 a1 a2 a3 t104 y107 99999 0 a0_0 a0_1 l0_2) = some r := by first | (rw [hy107]; with_reducible exact H) | (have H2_ := (Option.bind_some _ _).symm.trans H; rw [hy107]; with_reducible exact H2_) | (have H2_ := (Option.bind_some _ _).symm.trans H; with_reducible exact H2_) | with_reducible exact H | (rw [hy107]; exact H) | exact H
     have Ny107 := Aside0.mk hy107; clear hy107; have H' := Aside0.mk H; clear H; obtain ⟨hcz19_0, hcz19_1, hcz19_2, hfz19_0, hfz19_1, hfz19_2⟩ := bc3 BK101; go_wp2_with (first | ((with_reducible refine gate_callee (f := 64) rfl ?_); refine goesL_ (some 28) rfl rfl Try.func64 (by kernel_rfl) rfl #[.agg #[.int .i64 a0_0, .int .i64 a0_1, .slice A0_2 l0_2.length c0_2], .int .i64 a1, .int .i64 a3] rfl ul ?_; (with_reducible refine (impl_Plan_rides.calls kj4 a0_0 a0_1 _ _ l0_2 a1 a3 t104 _ ?side1 ?side2 A17.out).mono ?_); (case side1 => exact uC HR0_2 HB); (case side2 => exact HC0_2.out); rintro e w20 ⟨v105, rfl, ho0, hb⟩; refine ⟨_, rfl, ?_⟩; have HO106 := Aside0.mk (Kd.R_lower ho0 (below_size (uB1 HB GE101.out))); replace BK101 := bb BK101 hb; replace HB := Aside0.mk (below_step (uB1 HB GE101.out) hb); (try clear hb); (try clear ho0)) | ((with_reducible refine gate_dst (N := 29) rfl ?_); refine Kd.R_room k43 _ 43 rfl (N := 29) rfl 40 _ _ rfl 7 rfl rfl Try.underlying40 (.agg #[(.int .i64 0), (.int .i64 0)]) 16 info43 rfl (by omega) (ok := fun _ => True) trivial (by omega) (by omega) (Below.refl _ _) (Nat.le_refl _) ?_; intro v108 w21 ho22 hb hg_ hnew_; clear hg_ hnew_; (rw [← Ny107.out] at ho22); replace HO106 := Aside0.mk (Kd.R_below (ur HO106) hb); have HO109 := Aside0.mk (Kd.R_lower ho22 (below_size (uB1 HB GE101.out))); replace BK101 := bb BK101 hb; replace HB := Aside0.mk (below_step (uB1 HB GE101.out) hb); clear hb ho22)); go_loopg [10, 11, 30] kj4 (fun kq v10 v11 v30 w' => ∃ (x10_2 : List (S43)) (x11_2 : Int) (x30_2 : Int), v11 = .int .i64 x11_2 ∧ v30 = .int .i64 x30_2 ∧ Aside0 (impl_RoundBest.l0 kq a1 a2 a3 t104 x10_2 x11_2 x30_2 a0_0 a0_1 l0_2 = some r) ∧ Aside0 (kq ≤ kj4) ∧ Aside0 (Kd.R (Kd.int .i64) 3 w' w.heap.size (fun _ => True) v105 t104) ∧ Aside0 (Kd.R k43 43 w' w.heap.size (fun _ => True) v10 x10_2) ∧ Aside0 (w'.heap[gb101]? = some (.cells #[.int .i64 a0_0, .int .i64 a0_1, (.slice A0_2 l0_2.length c0_2)] 25 (0, 0))) ∧ Aside0 (Below w.heap.size w w'))
     case atStart => exact ⟨(y107), (99999), (0), ue, ue, H', ⟨Nat.le_refl _⟩, ⟨ur HO106⟩, ⟨ur HO109⟩, ⟨ub BK101⟩, ⟨uB1 HB GE101.out⟩⟩
     case round =>
      clear H'
      clear c18b0 c18b1 hcz19_0 hcz19_1 hcz19_2 hfz19_0 hfz19_1 hfz19_2
      obtain ⟨x10_2, x11_2, x30_2, rfl, rfl, HA, HK2, HO_9, HO_10, BK101, HB⟩ := hrel
      cases gk with
      | zero => exact absurd HA.out (by simp [impl_RoundBest.l0])
      | succ k2 =>
       have H := HA.out; clear HA; simp only [impl_RoundBest.l0] at H; by_cases c23 : x30_2 < 7
       ·
        rw [if_pos c23] at H; have c23b0 := dl c23; clear c23; replace H := Option.bind_eq_some_iff.mp H; obtain ⟨t110, A240, H⟩ := H; replace H : (if 0 ≤ a2 then (if a2 < (t110.length : Int) then (if (rd t110 a2) < x11_2 then (if x10_2.length < 8796093022208 then (impl_RoundBest.l0 k2 a1 a2 a3 t104 (x10_2 ++ [(⟨x30_2, rd t110 a2⟩ : S43)]) (rd t110 a2) (wrap64 (x30_2 + 1)) a0_0 a0_1 l0_2) else (none)) else (impl_RoundBest.l0 k2 a1 a2 a3 t104 x10_2 x11_2 (wrap64 (x30_2 + 1)) a0_0 a0_1 l0_2)) else (none)) else (none)) = some r := H; have A24 := Aside0.mk A240; clear A240; by_cases c25 : 0 ≤ a2
        ·
         rw [if_pos c25] at H; have c25b0 := de c25; clear c25; by_cases c26 : a2 < (t110.length : Int)
         ·
          rw [if_pos c26] at H; have c26b0 := dl c26; clear c26; have HH_ := Aside0.mk H; clear H; obtain ⟨hcz27_0, hcz27_1, hcz27_2, hfz27_0, hfz27_1, hfz27_2⟩ := bc3 BK101; obtain ⟨Ao28, co28, eo28⟩ := Kd.R_slice HO_9.out; subst eo28; go_upto_region 10 with (((with_reducible refine gate_callee (f := 63) rfl ?_); refine goesL_ (some 38) rfl rfl Try.func63 (by kernel_rfl) rfl #[.agg #[.int .i64 a0_0, .int .i64 a0_1, .slice A0_2 l0_2.length c0_2], .slice Ao28 t104.length co28, .int .i64 a1, .int .i64 a3, .int .i64 x30_2] rfl ul ?_; (with_reducible refine (impl_Plan_arrivals.calls k2 a0_0 a0_1 _ _ l0_2 _ _ t104 a1 a3 x30_2 t110 _ ?side1 ?side2 ?side3 ?side4 A24.out).mono ?_); (case side1 => exact uC HR0_2 HB); (case side2 => exact HC0_2.out); (case side3 => exact uD (Kd.R_reads' HO_9.out).2.2); (case side4 => exact (Kd.R_reads' HO_9.out).2.1); rintro e w29 ⟨v111, rfl, ho0, hb⟩; refine ⟨_, rfl, ?_⟩; replace HO_10 := Aside0.mk (Kd.R_below (ur HO_10) hb); have HO112 := Aside0.mk (Kd.R_lower (Kd.R_new' ho0 (Kd.R_lt (ur HO_9))) (below_size (uB1 HB GE101.out))); replace HO_9 := Aside0.mk (Kd.R_elder' (ur HO_9) (Kd.R_base ho0) hb); replace BK101 := bb BK101 hb; replace HB := Aside0.mk (below_step (uB1 HB GE101.out) hb); (try clear hb); (try clear ho0); obtain ⟨Ao30, co30, eo30⟩ := Kd.R_slice HO112.out; subst eo30; have p113 : 0 ≤ (a2 : Int) := ua; have q113 : a2 < (t110.length : Int) := ua; obtain ⟨ad113, e113, hx113_0⟩ := Kd.at_int (Kd.R_reads' HO112.out).2.2 a2 p113 q113; cases e113; replace p113 := eq_true p113; replace q113 := eq_true q113))
          have H := HH_.out; clear HH_; by_cases c31 : (rd t110 a2) < x11_2
          ·
           rw [if_pos c31] at H; have c31b0 := dl c31; clear c31; by_cases c32 : x10_2.length < 8796093022208
           ·
            rw [if_pos c32] at H; have LMc32 := Aside0.mk c32; clear c32; obtain ⟨y114, hy114⟩ : ∃ y_ : List (S43), y_ = (x10_2 ++ [(⟨x30_2, rd t110 a2⟩ : S43)]) := ⟨_, rfl⟩
            replace H : (impl_RoundBest.l0 k2 a1 a2 a3 t104 y114 (rd t110 a2) (wrap64 (x30_2 + 1)) a0_0 a0_1 l0_2) = some r := by first | (rw [hy114]; with_reducible exact H) | (have H2_ := (Option.bind_some _ _).symm.trans H; rw [hy114]; with_reducible exact H2_) | (have H2_ := (Option.bind_some _ _).symm.trans H; with_reducible exact H2_) | with_reducible exact H | (rw [hy114]; exact H) | exact H
            have Ny114 := Aside0.mk hy114; clear hy114; have H' := Aside0.mk H; clear H; go_wp2_with (((with_reducible refine gate_builtin (b := .append) (xs := #[.tmp 45, .tmp 49]) rfl ?_); at_builtin; refine Kd.R_append k43 (w0 := w) w.heap.size rfl (.tmp 45) (.tmp 49) 40 43 (.agg #[(.int .i64 0), (.int .i64 0)]) 16 rfl Try.underlying40 info43 rfl (by decide) (by omega) u10 x10_2 (⟨x30_2, rd t110 a2⟩ : S43) [.int .i64 x30_2, .int .i64 (rd t110 a2)] (fun _ => True) (fun _ => False) rfl rfl ?aP (fun _ hk => hk.elim) ?aF ?aO ?aB ?aS ?aL ?_; (case aP => exact k43_mkM _ _ _ (⟨x30_2, rd t110 a2⟩ : S43)); (case aB => exact (uB1 HB GE101.out)); (case aF => exact (fun _ _ => trivial)); (case aO => exact (ur HO_10)); (case aS => exact (below_size (uB1 HB GE101.out))); (case aL => have := LMc32.out; omega); intro v115 w31 ho hb hg hat; rw [← Ny114.out] at ho; replace HO_9 := Aside0.mk (Kd.R_over' (ur HO_9) (Kd.R_typed (ur HO_10)) (by decide) hg); replace BK101 := bg BK101 hg (Kd.R_ne HO_10.out BK101.out (by decide)); replace HO112 := Aside0.mk (Kd.R_over' (ur HO112) (Kd.R_typed (ur HO_10)) (by decide) hg); replace HB := Aside0.mk (hb); have HO116 := Aside0.mk (ho); clear HO_10; clear ho hb hg hat)); go_roundg k2
            case measure => have := HJ4.out; have := HK2.out; omega
            case rel => exact ⟨(y114), (rd t110 a2), (wrap64 (x30_2 + 1)), ue, ue, H', ⟨by have := HJ4.out; have := HK2.out; omega⟩, ⟨by (with_reducible repeat (first | apply Kd.R_alloc | apply Kd.R_drewN | apply Kd.R_drew)); exact Kd.R_mono HO_9.out (fun _ hk => trivial)⟩, ⟨ur HO116⟩, ⟨ub BK101⟩, ⟨uB1 HB GE101.out⟩⟩
           ·
            rw [if_neg c32] at H; exact absurd H (by simp)
          ·
           rw [if_neg c31] at H; have c31b0 := DL c31; clear c31; have H' := Aside0.mk H; clear H; go_wp2; go_roundg k2
           case measure => have := HJ4.out; have := HK2.out; omega
           case rel => exact ⟨(x10_2), (x11_2), (wrap64 (x30_2 + 1)), ue, ue, H', ⟨by have := HJ4.out; have := HK2.out; omega⟩, ⟨by (with_reducible repeat (first | apply Kd.R_alloc | apply Kd.R_drewN | apply Kd.R_drew)); exact Kd.R_mono HO_9.out (fun _ hk => trivial)⟩, ⟨ur HO_10⟩, ⟨ub BK101⟩, ⟨uB1 HB GE101.out⟩⟩
         ·
          rw [if_neg c26] at H; exact absurd H (by simp)
        ·
         rw [if_neg c25] at H; exact absurd H (by simp)
       ·
        rw [if_neg c23] at H; have c23b0 := DL c23; clear c23; obtain ⟨y117, hy117⟩ : ∃ y_ : List (S43), y_ = (x10_2) := ⟨_, rfl⟩
        replace H : (some y117) = some r := by first | (rw [hy117]; with_reducible exact H) | (have H2_ := (Option.bind_some _ _).symm.trans H; rw [hy117]; with_reducible exact H2_) | (have H2_ := (Option.bind_some _ _).symm.trans H; with_reducible exact H2_) | with_reducible exact H | (rw [hy117]; exact H) | exact H
        have Ny117 := Aside0.mk hy117; clear hy117; obtain rfl := Option.some.inj H; obtain ⟨Ao33, co33, eo33⟩ := Kd.R_slice HO_10.out; subst eo33; obtain ⟨i034, hi034, _, hsz34, _⟩ := info_parts info43; have hy34 : y117.length = x10_2.length := by rw [Ny117.out] <;> exact (Kd.R_reads' HO_10.out).1.symm
        have hcut34 : ∀ W : World, (Instr.slice 40 (.slice Ao33 x10_2.length co33) none (some (.int .i64 (x10_2.length : Int))) (some (.int .i64 (x10_2.length : Int)))).run Try.prog W = .ok (.slice Ao33 y117.length y117.length) W := by rw [hy34] <;> exact cut_clip (P := Try.prog) 40 43 .i64 .i64 Try.underlying40 hi034 _ _ _ (Kd.R_reads' HO_10.out).2.1
        have hr34 := Kd.R_clip HO_10.out; rw [← hy34] at hr34; rw [← Ny117.out] at hr34; clear hy34 hi034 hsz34 HO_10; have HO119 := Aside0.mk hr34; clear hr34; go_wp2; go_ret; exact ⟨_, by first | rfl | (simp [errW_none, errW_some] <;> rfl) | (simp [*, errW_none, errW_some] <;> rfl), by (with_reducible repeat (first | apply Kd.R_alloc | apply Kd.R_drewN | apply Kd.R_drew)); exact HO119.out, uB1 HB GE101.out⟩
    ·
     rw [if_neg c18] at H; exact absurd H (by simp)

end Go.Proofs.Ytcklifkbodmoaaa.P
