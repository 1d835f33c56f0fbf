-- written for this claim by a program (wip/gen/myprint.py over the print tool). Not trusted: Lean checks it.
import Derived.Test.YtcklifkbodmoaaaPx0
import Derived.Test.YtcklifkbodmoaaaHUp
import Derived.Test.YtcklifkbodmoaaaGBase
import Derived.Test.YtcklifkbodmoaaaGPBase
import Derived.Test.YtcklifkbodmoaaaPFImplPlanArrivals
import Derived.Test.YtcklifkbodmoaaaPFImplPlanRides
namespace Go.Proofs.Ytcklifkbodmoaaa.P
open Go.RowKit Go.Proofs.YtcklifkbodmoaaaV.PrintWords Go.Proofs.YtcklifkbodmoaaaV.PrintLast
set_option linter.unusedVariables false
set_option linter.unusedSimpArgs false

/-! ### impl_RoundAll: function 24 -/
mutual
def impl_RoundAll.j0 : Nat → Int → Int → Int → Bool → Int → Int → List (S32) → Option ((List (List Int)))
 | 0, _, _, _, _, _, _, _ => none
 | k + 1, x1, x2, x3, x21, x102000, x102001, x102002 => if x21 = true then (some ([] : List (List Int))) else ((impl_Plan_rides.f k x102000 x102001 x102002 x1 x2).bind fun t104 => (if 0 ≤ (wrap64 (x3 + 1)) then (if (wrap64 (x3 + 1) : Int).toNat ≤ 11728124029610 then (impl_RoundAll.l0 k x1 x2 t104 (([] : List (List Int))) (wrap64 (x3 + 1)) 0 x102000 x102001 x102002) else (none)) else (none)))
def impl_RoundAll.l0 : Nat → Int → Int → List Int → List (List Int) → Int → Int → Int → Int → List (S32) → Option ((List (List Int)))
 | 0, _, _, _, _, _, _, _, _, _ => none
 | k + 1, x1, x2, x9, x10, x30, x31, x102000, x102001, x102002 => if x31 < x30 then ((impl_Plan_arrivals.f k x102000 x102001 x102002 x9 x1 x2 x31).bind fun t110 => (if x10.length < 5864062014805 then (impl_RoundAll.l0 k x1 x2 x9 (x10 ++ [t110]) x30 (wrap64 (x31 + 1)) x102000 x102001 x102002) else (none))) else (some x10)
end
def impl_RoundAll.f (k : Nat) (a0_0 : Int) (a0_1 : Int) (l0_2 : List (S32)) (a1 : Int) (a2 : Int) (a3 : Int) : Option ((List (List Int))) := (impl_planIn.f k a0_0 a0_1 l0_2 a1 a2).bind fun t102 => (if t102 = true then ((impl_within.f a3 0 6).bind fun t103 => (impl_RoundAll.j0 k a1 a2 a3 (!t103) a0_0 a0_1 l0_2)) else (impl_RoundAll.j0 k a1 a2 a3 true a0_0 a0_1 l0_2))
set_option maxHeartbeats 8000000 in
set_option maxRecDepth 100000 in
theorem impl_RoundAll.calls (k : Nat) (a0_0 : Int) (a0_1 : Int) (A0_2 : Option Addr) (c0_2 : Nat) (l0_2 : List (S32)) (a1 : Int) (a2 : Int) (a3 : Int) (r : List (List Int)) (w : World) (hr0_2 : Kd.C k32 w A0_2 l0_2.length l0_2) (hc0_2 : l0_2.length ≤ c0_2) (h : impl_RoundAll.f k a0_0 a0_1 l0_2 a1 a2 a3 = some r) :
  Calls Try.prog 24 #[.agg #[.int .i64 a0_0, .int .i64 a0_1, .slice A0_2 l0_2.length c0_2], .int .i64 a1, .int .i64 a2, .int .i64 a3] w fun e w' => ∃ v0_ : Value, e = .returned (v0_) ∧ Kd.S (Kd.slice 3 (Kd.int .i64)) 28 w' w.heap.size (fun _ => True) v0_ r ∧ Below w.heap.size w w' := by
 have hu25 := Try.underlying25
 have HR0_2 := Aside0.mk hr0_2
 have HC0_2 := Aside0.mk hc0_2
 clear hr0_2 hc0_2
 have HB := Aside0.mk (Below.refl w.heap.size w)
 have H : ((impl_planIn.f k a0_0 a0_1 l0_2 a1 a2).bind fun t102 => (if t102 = true then ((impl_within.f a3 0 6).bind fun t103 => (impl_RoundAll.j0 k a1 a2 a3 (!t103) a0_0 a0_1 l0_2)) else (impl_RoundAll.j0 k a1 a2 a3 true a0_0 a0_1 l0_2))) = some r := h
 clear h
 have HC5 := Aside0.mk H
 clear H
 go_enter Try.func24, Try.ntmps24
 go_upto_region 1 with (((with_reducible refine gate_dst (N := 4) rfl ?_); refine be (cs := #[.int .i64 a0_0, .int .i64 a0_1, .slice A0_2 l0_2.length c0_2]) (t := 25) ?_; intro gb101 hg w6 hbox hb; have BK101 := Aside0.mk (hbox); have GW101 := gz w hg (uB0 HB); have GE101 := gz w hg (uB0 HB); replace HB := Aside0.mk (below_step (uB0 HB) hb); clear hb hbox hg))
 go_cut [21] (fun v21 wc => ∃ (kq : Nat) (x21_4 : Bool), v21 = .bool x21_4 ∧ Aside0 (impl_RoundAll.j0 kq a1 a2 a3 x21_4 a0_0 a0_1 l0_2 = some r) ∧ Aside0 (kq ≤ k) ∧ Aside0 (wc.heap[gb101]? = some (.cells #[.int .i64 a0_0, .int .i64 a0_1, (.slice A0_2 l0_2.length c0_2)] 25 (0, 0))) ∧ Aside0 (Below w.heap.size w wc))
 case first =>
  have H := HC5.out; clear HC5; replace H := Option.bind_eq_some_iff.mp H; obtain ⟨t102, A70, H⟩ := H; replace H : (if t102 = true then ((impl_within.f a3 0 6).bind fun t103 => (impl_RoundAll.j0 k a1 a2 a3 (!t103) a0_0 a0_1 l0_2)) else (impl_RoundAll.j0 k a1 a2 a3 true a0_0 a0_1 l0_2)) = some r := H; have A7 := Aside0.mk A70; clear A70; by_cases c8 : t102 = true
  ·
   subst c8; rw [if_pos rfl] at H; replace H := Option.bind_eq_some_iff.mp H; obtain ⟨t103, A90, H⟩ := H; replace H : (impl_RoundAll.j0 k a1 a2 a3 (!t103) a0_0 a0_1 l0_2) = some r := H; have A9 := Aside0.mk A90; clear A90; have H' := Aside0.mk H; clear H; obtain ⟨hcz10_0, hcz10_1, hcz10_2, hfz10_0, hfz10_1, hfz10_2⟩ := bc3 BK101; go_wp2_with (first | ((with_reducible refine gate_callee (f := 62) rfl ?_); refine goesL_ (some 15) rfl rfl Try.func62 (by kernel_rfl) rfl #[.agg #[.int .i64 a0_0, .int .i64 a0_1, .slice A0_2 l0_2.length c0_2], .int .i64 a1, .int .i64 a2] rfl ul ?_; (with_reducible refine (impl_planIn.calls k a0_0 a0_1 _ _ l0_2 a1 a2 true _ ?side1 ?side2 A7.out).mono ?_); (case side1 => exact uC HR0_2 HB); (case side2 => exact HC0_2.out); rintro e w11 ⟨rfl, hb⟩; refine ⟨_, rfl, ?_⟩; replace BK101 := bb BK101 hb; replace HB := Aside0.mk (below_step (uB1 HB GE101.out) hb); (try clear hb)) | (go_at_call 68; (with_reducible refine (impl_within.calls a3 0 6 t103 _ A9.out).mono ?_); rintro e w' ⟨rfl, ⟨nd, rfl⟩⟩)); go_meet
   case rel => exact ⟨_, (!t103), ue, H', ⟨by first | omega | exact Nat.le_refl _⟩, ⟨ub BK101⟩, ⟨uB1 HB GE101.out⟩⟩
  ·
   replace c8 := Bool.eq_false_iff.mpr c8; subst c8; rw [if_neg (show ¬ (false = true) by decide)] at H; have H' := Aside0.mk H; clear H; obtain ⟨hcz12_0, hcz12_1, hcz12_2, hfz12_0, hfz12_1, hfz12_2⟩ := bc3 BK101; go_wp2_with (((with_reducible refine gate_callee (f := 62) rfl ?_); refine goesL_ (some 15) rfl rfl Try.func62 (by kernel_rfl) rfl #[.agg #[.int .i64 a0_0, .int .i64 a0_1, .slice A0_2 l0_2.length c0_2], .int .i64 a1, .int .i64 a2] rfl ul ?_; (with_reducible refine (impl_planIn.calls k a0_0 a0_1 _ _ l0_2 a1 a2 false _ ?side1 ?side2 A7.out).mono ?_); (case side1 => exact uC HR0_2 HB); (case side2 => exact HC0_2.out); rintro e w13 ⟨rfl, hb⟩; refine ⟨_, rfl, ?_⟩; replace BK101 := bb BK101 hb; replace HB := Aside0.mk (below_step (uB1 HB GE101.out) hb); (try clear hb))); go_meet
   case rel => exact ⟨_, (true), ue, H', ⟨by first | omega | exact Nat.le_refl _⟩, ⟨ub BK101⟩, ⟨uB1 HB GE101.out⟩⟩
 case rest =>
  clear HC5
  obtain ⟨kq, x21_4, rfl, HA, HJ4, BK101, HB⟩ := hcut
  cases kq with
  | zero => exact absurd HA.out (by simp [impl_RoundAll.j0])
  | succ kj4 =>
   have H := HA.out; clear HA; simp only [impl_RoundAll.j0] at H; by_cases c14 : x21_4 = true
   ·
    subst c14; rw [if_pos rfl] at H; obtain rfl := Option.some.inj H; go_wp2; go_ret; exact ⟨_, by first | rfl | (simp [errW_none, errW_some] <;> rfl) | (simp [*, errW_none, errW_some] <;> rfl), by first | exact Kd.S_nil _ _ _ _ _ | exact Kd.N_nil _ _ _ _ _ | exact Kd.V_nil _ _ _ _ _ | exact Kd.Q_nil _ _ _ _ _ | exact Kd.R_nil _ _ _ _ _, uB1 HB GE101.out⟩
   ·
    replace c14 := Bool.eq_false_iff.mpr c14; subst c14; rw [if_neg (show ¬ (false = true) by decide)] at H; replace H := Option.bind_eq_some_iff.mp H; obtain ⟨t104, A150, H⟩ := H; replace H : (if 0 ≤ (wrap64 (a3 + 1)) then (if (wrap64 (a3 + 1) : Int).toNat ≤ 11728124029610 then (impl_RoundAll.l0 kj4 a1 a2 t104 (([] : List (List Int))) (wrap64 (a3 + 1)) 0 a0_0 a0_1 l0_2) else (none)) else (none)) = some r := H; have A15 := Aside0.mk A150; clear A150; obtain ⟨ji16, hji16⟩ : ∃ j_ : Int, (wrap64 (a3 + 1)) = j_ := ⟨_, rfl⟩
    replace H : (if 0 ≤ (ji16) then (if (ji16 : Int).toNat ≤ 11728124029610 then (impl_RoundAll.l0 kj4 a1 a2 t104 (([] : List (List Int))) ji16 0 a0_0 a0_1 l0_2) else (none)) else (none)) = some r := by first | (rw [hji16] at H; exact H) | (simp only [hji16] at H ⊢; exact H)
    have hji16w : (IntKind.i64.wrap (a3 + 1)) = ji16 := (i64_w _).trans hji16; by_cases c17 : 0 ≤ (ji16)
    ·
     rw [if_pos c17] at H; have c17b0 := eq_true c17; have c17b1 := de c17; clear c17; by_cases c18 : (ji16 : Int).toNat ≤ 11728124029610
     ·
      rw [if_pos c18] at H; have c18b0 := eq_true c18; have c18b1 := de c18; clear c18; obtain ⟨y107, hy107⟩ : ∃ y_ : List (List Int), y_ = (([] : List (List Int))) := ⟨_, rfl⟩
      replace H : (impl_RoundAll.l0 kj4 a1 a2 t104 y107 ji16 0 a0_0 a0_1 l0_2) = some r := by first | (rw [hy107]; with_reducible exact H) | (have H2_ := (Option.bind_some _ _).symm.trans H; rw [hy107]; with_reducible exact H2_) | (have H2_ := (Option.bind_some _ _).symm.trans H; with_reducible exact H2_) | with_reducible exact H | (rw [hy107]; exact H) | exact H
      have Ny107 := Aside0.mk hy107; clear hy107; have H' := Aside0.mk H; clear H; obtain ⟨hcz19_0, hcz19_1, hcz19_2, hfz19_0, hfz19_1, hfz19_2⟩ := bc3 BK101; go_wp2_with (first | ((with_reducible refine gate_callee (f := 64) rfl ?_); refine goesL_ (some 25) rfl rfl Try.func64 (by kernel_rfl) rfl #[.agg #[.int .i64 a0_0, .int .i64 a0_1, .slice A0_2 l0_2.length c0_2], .int .i64 a1, .int .i64 a2] rfl ul ?_; (with_reducible refine (impl_Plan_rides.calls kj4 a0_0 a0_1 _ _ l0_2 a1 a2 t104 _ ?side1 ?side2 A15.out).mono ?_); (case side1 => exact uC HR0_2 HB); (case side2 => exact HC0_2.out); rintro e w20 ⟨v105, rfl, ho0, hb⟩; refine ⟨_, rfl, ?_⟩; have HO106 := Aside0.mk (Kd.R_lower ho0 (below_size (uB1 HB GE101.out))); replace BK101 := bb BK101 hb; replace HB := Aside0.mk (below_step (uB1 HB GE101.out) hb); (try clear hb); (try clear ho0)) | ((with_reducible refine gate_dst (N := 28) rfl ?_); refine Kd.S_room (Kd.slice 3 (Kd.int .i64)) _ 28 rfl (N := 28) rfl 37 _ _ rfl ji16 rfl rfl Try.underlying37 (.slice none 0 0) 24 info28 rfl (by omega) (ok := fun _ => True) trivial (ua) (Nat.le_trans (Nat.mul_le_mul_right _ (ua : ji16.toNat ≤ 11728124029610)) (by omega)) (Below.refl _ _) (Nat.le_refl _) ?_; intro v108 w21 ho22 hb hg_ hnew_; clear hg_ hnew_; (rw [← Ny107.out] at ho22); have HO109 := Aside0.mk (Kd.S_lower (Kd.S_new' ho22 (Kd.R_lt (ur HO106))) (below_size (uB1 HB GE101.out))); replace HO106 := Aside0.mk (Kd.R_below (ur HO106) hb); replace BK101 := bb BK101 hb; replace HB := Aside0.mk (below_step (uB1 HB GE101.out) hb); clear hb ho22)); go_loopg [10, 31] kj4 (fun kq v10 v31 w' => ∃ (x10_2 : List (List Int)) (x31_2 : Int), v31 = .int .i64 x31_2 ∧ Aside0 (impl_RoundAll.l0 kq a1 a2 t104 x10_2 ji16 x31_2 a0_0 a0_1 l0_2 = some r) ∧ Aside0 (kq ≤ kj4) ∧ Aside0 (Kd.R (Kd.int .i64) 3 w' w.heap.size (fun _ => True) v105 t104) ∧ Aside0 (Kd.S (Kd.slice 3 (Kd.int .i64)) 28 w' w.heap.size (fun k_ => some k_ ≠ (v105 : Value).ownBlock) v10 x10_2) ∧ Aside0 (w'.heap[gb101]? = some (.cells #[.int .i64 a0_0, .int .i64 a0_1, (.slice A0_2 l0_2.length c0_2)] 25 (0, 0))) ∧ Aside0 (Below w.heap.size w w'))
      case atStart => exact ⟨(y107), (0), ue, H', ⟨Nat.le_refl _⟩, ⟨ur HO106⟩, ⟨by (with_reducible repeat (first | apply Kd.S_alloc | apply Kd.S_drewN | apply Kd.S_drew)); exact Kd.S_mono HO109.out (fun _ hk => hk.2)⟩, ⟨ub BK101⟩, ⟨uB1 HB GE101.out⟩⟩
      case round =>
       clear H'
       clear c17b0 c17b1 c18b0 c18b1 hcz19_0 hcz19_1 hcz19_2 hfz19_0 hfz19_1 hfz19_2
       obtain ⟨x10_2, x31_2, rfl, HA, HK2, HO_9, HO_10, BK101, HB⟩ := hrel
       cases gk with
       | zero => exact absurd HA.out (by simp [impl_RoundAll.l0])
       | succ k2 =>
        have H := HA.out; clear HA; simp only [impl_RoundAll.l0] at H; by_cases c23 : x31_2 < ji16
        ·
         rw [if_pos c23] at H; have c23b0 := dl c23; clear c23; replace H := Option.bind_eq_some_iff.mp H; obtain ⟨t110, A240, H⟩ := H; replace H : (if x10_2.length < 5864062014805 then (impl_RoundAll.l0 k2 a1 a2 t104 (x10_2 ++ [t110]) ji16 (wrap64 (x31_2 + 1)) a0_0 a0_1 l0_2) else (none)) = some r := H; have A24 := Aside0.mk A240; clear A240; by_cases c25 : x10_2.length < 5864062014805
         ·
          rw [if_pos c25] at H; have LMc25 := Aside0.mk c25; clear c25; obtain ⟨y113, hy113⟩ : ∃ y_ : List (List Int), y_ = (x10_2 ++ [t110]) := ⟨_, rfl⟩
          replace H : (impl_RoundAll.l0 k2 a1 a2 t104 y113 ji16 (wrap64 (x31_2 + 1)) a0_0 a0_1 l0_2) = some r := by first | (rw [hy113]; with_reducible exact H) | (have H2_ := (Option.bind_some _ _).symm.trans H; rw [hy113]; with_reducible exact H2_) | (have H2_ := (Option.bind_some _ _).symm.trans H; with_reducible exact H2_) | with_reducible exact H | (rw [hy113]; exact H) | exact H
          have Ny113 := Aside0.mk hy113; clear hy113; have H' := Aside0.mk H; clear H; obtain ⟨hcz26_0, hcz26_1, hcz26_2, hfz26_0, hfz26_1, hfz26_2⟩ := bc3 BK101; obtain ⟨Ao27, co27, eo27⟩ := Kd.R_slice HO_9.out; subst eo27; go_wp2_with (first | ((with_reducible refine gate_callee (f := 63) rfl ?_); refine goesL_ (some 40) rfl rfl Try.func63 (by kernel_rfl) rfl #[.agg #[.int .i64 a0_0, .int .i64 a0_1, .slice A0_2 l0_2.length c0_2], .slice Ao27 t104.length co27, .int .i64 a1, .int .i64 a2, .int .i64 x31_2] rfl ul ?_; (with_reducible refine (impl_Plan_arrivals.calls k2 a0_0 a0_1 _ _ l0_2 _ _ t104 a1 a2 x31_2 t110 _ ?side1 ?side2 ?side3 ?side4 A24.out).mono ?_); (case side1 => exact uC HR0_2 HB); (case side2 => exact HC0_2.out); (case side3 => exact uD (Kd.R_reads' HO_9.out).2.2); (case side4 => exact (Kd.R_reads' HO_9.out).2.1); rintro e w28 ⟨v111, rfl, ho0, hb⟩; refine ⟨_, rfl, ?_⟩; replace HO_10 := Aside0.mk (Kd.S_elder' (by (with_reducible repeat (first | apply Kd.S_alloc | apply Kd.S_drewN | apply Kd.S_drew)); exact HO_10.out) (Kd.R_base ho0) hb); have HO112 := Aside0.mk (Kd.R_lower (Kd.R_new' ho0 (Kd.R_lt (ur HO_9))) (below_size (uB1 HB GE101.out))); replace HO_9 := Aside0.mk (Kd.R_elder' (ur HO_9) (Kd.R_base ho0) hb); replace BK101 := bb BK101 hb; replace HB := Aside0.mk (below_step (uB1 HB GE101.out) hb); (try clear hb); (try clear ho0); obtain ⟨Ao30, co30, eo30⟩ := Kd.R_slice HO112.out; subst eo30) | ((with_reducible refine gate_builtin (b := .append) (xs := #[.tmp 34, .tmp 41]) rfl ?_); at_builtin; refine Kd.S_append (Kd.slice 3 (Kd.int .i64)) (w0 := w) w.heap.size rfl (.tmp 34) (.tmp 41) 37 28 (.slice none 0 0) 24 rfl Try.underlying37 info28 rfl (by decide) (by omega) u10 x10_2 t110 [.slice Ao30 t110.length co30] (fun k_ => some k_ ≠ (.slice Ao27 t104.length co27 : Value).ownBlock) (fun k_ => some k_ = (.slice Ao30 t110.length co30 : Value).ownBlock) rfl rfl ?aP (fun k_ hk_ => ((Kd.R_mono (ok' := fun k_ => ((fun k_ => some k_ ≠ (.slice Ao27 t104.length co27 : Value).ownBlock)) k_ ∧ some k_ ≠ (u10 : Value).ownBlock) (Kd.R_apart' (HO112.out) (Kd.S_typed HO_10.out) (by decide)) (fun k_ hk => ⟨hk.1.2, hk.2⟩))).1 k_ hk_.symm) ?aF ?aO ?aB ?aS ?aL ?_; (case aP => exact Kd.M_row (Kd.R_mono (Kd.R_tight rfl (Kd.R_mono (ok' := fun k_ => ((fun k_ => some k_ ≠ (.slice Ao27 t104.length co27 : Value).ownBlock)) k_ ∧ some k_ ≠ (u10 : Value).ownBlock) (Kd.R_apart' (HO112.out) (Kd.S_typed HO_10.out) (by decide)) (fun k_ hk => ⟨hk.1.2, hk.2⟩))) (fun _ h_ => h_))); (case aB => exact (uB1 HB GE101.out)); (case aF => exact (fun k_ hk => Kd.fresh' (Kd.R_lt (ur HO_9)) k_ hk)); (case aO => exact (by (with_reducible repeat (first | apply Kd.S_alloc | apply Kd.S_drewN | apply Kd.S_drew)); exact Kd.S_mono HO_10.out (fun k_ hk => ⟨hk.1, fun e_ => hk.2 e_⟩))); (case aS => exact (below_size (uB1 HB GE101.out))); (case aL => have := LMc25.out; omega); intro v114 w29 ho hb hg hat; rw [← Ny113.out] at ho; replace HO_9 := Aside0.mk (Kd.R_over' (ur HO_9) (Kd.S_typed (by (with_reducible repeat (first | apply Kd.S_alloc | apply Kd.S_drewN | apply Kd.S_drew)); exact HO_10.out)) (by decide) hg); replace BK101 := Aside0.mk (blk_grown (g := gb101) (o := .cells #[.int .i64 a0_0, .int .i64 a0_1, .slice A0_2 l0_2.length c0_2] 25 (0, 0)) (ub BK101) hg (Kd.S_ne HO_10.out BK101.out (by decide))); replace HB := Aside0.mk (hb); have HO115 := Aside0.mk (ho); clear HO_10; clear HO112; clear ho hb hg hat)); go_roundg k2
          case measure => have := HJ4.out; have := HK2.out; omega
          case rel => exact ⟨(y113), (wrap64 (x31_2 + 1)), ue, H', ⟨by have := HJ4.out; have := HK2.out; omega⟩, ⟨by (with_reducible repeat (first | apply Kd.R_alloc | apply Kd.R_drewN | apply Kd.R_drew)); exact Kd.R_mono HO_9.out (fun _ hk => trivial)⟩, ⟨by (with_reducible repeat (first | apply Kd.S_alloc | apply Kd.S_drewN | apply Kd.S_drew)); exact HO115.out⟩, ⟨ub BK101⟩, ⟨uB1 HB GE101.out⟩⟩
         ·
          rw [if_neg c25] at H; exact absurd H (by simp)
        ·
         rw [if_neg c23] at H; have c23b0 := DL c23; clear c23; obtain rfl := Option.some.inj H; go_wp2; go_ret; exact ⟨_, by first | rfl | (simp [errW_none, errW_some] <;> rfl) | (simp only [← hji16]; first | rfl | (simp [errW_none, errW_some] <;> rfl)) | (simp [*, errW_none, errW_some] <;> rfl), by (with_reducible repeat (first | apply Kd.S_alloc | apply Kd.S_drewN | apply Kd.S_drew)); exact Kd.S_mono HO_10.out (fun _ hk => trivial), uB1 HB GE101.out⟩
     ·
      rw [if_neg c18] at H; exact absurd H (by simp)
    ·
     rw [if_neg c17] at H; exact absurd H (by simp)

end Go.Proofs.Ytcklifkbodmoaaa.P
