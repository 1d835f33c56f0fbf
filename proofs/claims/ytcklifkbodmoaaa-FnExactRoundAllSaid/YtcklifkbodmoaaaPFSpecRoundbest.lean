-- written for this claim by a program (wip/gen/myprint.py over the print tool). Not trusted: Lean checks it.
import Derived.Test.YtcklifkbodmoaaaPx0
import Derived.Test.YtcklifkbodmoaaaHUp
import Derived.Test.YtcklifkbodmoaaaGBase
import Derived.Test.YtcklifkbodmoaaaPFSpecL6Ok
import Derived.Test.YtcklifkbodmoaaaPFSpecL7All
namespace Go.Proofs.Ytcklifkbodmoaaa.P
open Go.RowKit Go.Proofs.YtcklifkbodmoaaaV.PrintWords Go.Proofs.YtcklifkbodmoaaaV.PrintLast
set_option linter.unusedVariables false
set_option linter.unusedSimpArgs false

/-! ### spec_RoundBest: function 29 -/
mutual
def spec_RoundBest.j0 : Nat → Int → Int → Int → List (S43) → Bool → Int → Int → List (S32) → Option ((List (S43)))
 | 0, _, _, _, _, _, _, _, _ => none
 | k + 1, x1, x2, x3, x9, x37, x102000, x102001, x102002 => if x37 = true then (some ([] : List (S43))) else ((spec_l7All.f k x102000 x102001 x102002 x1 x3 6).bind fun t109 => (spec_RoundBest.l0 k x2 x9 t109 99999 0))
def spec_RoundBest.l0 : Nat → Int → List (S43) → List (List Int) → Int → Int → Option ((List (S43)))
 | 0, _, _, _, _, _ => none
 | k + 1, x2, x9, x10, x11, x12 => if x12 < (x10.length : Int) then (if 0 ≤ x12 then (if 0 ≤ x2 then (if x2 < ((rd_L3 x10 x12).length : Int) then (if (rd (rd_L3 x10 x12) x2) < x11 then (if x9.length < 8796093022208 then (spec_RoundBest.l0 k x2 (x9 ++ [(⟨x12, rd (rd_L3 x10 x12) x2⟩ : S43)]) x10 (rd (rd_L3 x10 x12) x2) (wrap64 (x12 + 1))) else (none)) else (spec_RoundBest.l0 k x2 x9 x10 x11 (wrap64 (x12 + 1)))) else (none)) else (none)) else (none)) else (some x9)
end
def spec_RoundBest.f (k : Nat) (a0_0 : Int) (a0_1 : Int) (l0_2 : List (S32)) (a1 : Int) (a2 : Int) (a3 : Int) : Option ((List (S43))) := (some (([] : List (S43)) : List (S43))).bind fun y102 => ((spec_l6Ok.f k a0_0 a0_1 l0_2).bind fun t105 => (if t105 = true then ((spec_l1In.f a1 0 (wrap64 (a0_0 - 1))).bind fun t106 => (if t106 = true then ((spec_l1In.f a2 0 (wrap64 (a0_0 - 1))).bind fun t107 => (if t107 = true then ((spec_l1In.f a3 0 199).bind fun t108 => (spec_RoundBest.j0 k a1 a2 a3 y102 (!t108) a0_0 a0_1 l0_2)) else (spec_RoundBest.j0 k a1 a2 a3 y102 true a0_0 a0_1 l0_2))) else (spec_RoundBest.j0 k a1 a2 a3 y102 true a0_0 a0_1 l0_2))) else (spec_RoundBest.j0 k a1 a2 a3 y102 true a0_0 a0_1 l0_2)))
set_option maxHeartbeats 8000000 in
set_option maxRecDepth 100000 in
theorem spec_RoundBest.calls (k : Nat) (a0_0 : Int) (a0_1 : Int) (A0_2 : Option Addr) (c0_2 : Nat) (l0_2 : List (S32)) (a1 : Int) (a2 : Int) (a3 : Int) (r : List (S43)) (w : World) (hr0_2 : Kd.C k32 w A0_2 l0_2.length l0_2) (hc0_2 : l0_2.length ≤ c0_2) (h : spec_RoundBest.f k a0_0 a0_1 l0_2 a1 a2 a3 = some r) :
  Calls Try.prog 29 #[.agg #[.int .i64 a0_0, .int .i64 a0_1, .slice A0_2 l0_2.length c0_2], .int .i64 a1, .int .i64 a2, .int .i64 a3] w fun e w' => ∃ v0_ : Value, e = .returned (v0_) ∧ Kd.R k43 43 w' w.heap.size (fun _ => True) v0_ r ∧ Below w.heap.size w w' := by
 have hu25 := Try.underlying25
 have hu43 := Try.underlying43
 have HR0_2 := Aside0.mk hr0_2
 have HC0_2 := Aside0.mk hc0_2
 clear hr0_2 hc0_2
 have HB := Aside0.mk (Below.refl w.heap.size w)
 have H : ((some (([] : List (S43)) : List (S43))).bind fun y102 => ((spec_l6Ok.f k a0_0 a0_1 l0_2).bind fun t105 => (if t105 = true then ((spec_l1In.f a1 0 (wrap64 (a0_0 - 1))).bind fun t106 => (if t106 = true then ((spec_l1In.f a2 0 (wrap64 (a0_0 - 1))).bind fun t107 => (if t107 = true then ((spec_l1In.f a3 0 199).bind fun t108 => (spec_RoundBest.j0 k a1 a2 a3 y102 (!t108) a0_0 a0_1 l0_2)) else (spec_RoundBest.j0 k a1 a2 a3 y102 true a0_0 a0_1 l0_2))) else (spec_RoundBest.j0 k a1 a2 a3 y102 true a0_0 a0_1 l0_2))) else (spec_RoundBest.j0 k a1 a2 a3 y102 true a0_0 a0_1 l0_2)))) = some r := h
 clear h
 obtain ⟨y102, hy102⟩ : ∃ y_ : List (S43), y_ = (([] : List (S43))) := ⟨_, rfl⟩
 replace H : ((spec_l6Ok.f k a0_0 a0_1 l0_2).bind fun t105 => (if t105 = true then ((spec_l1In.f a1 0 (wrap64 (a0_0 - 1))).bind fun t106 => (if t106 = true then ((spec_l1In.f a2 0 (wrap64 (a0_0 - 1))).bind fun t107 => (if t107 = true then ((spec_l1In.f a3 0 199).bind fun t108 => (spec_RoundBest.j0 k a1 a2 a3 y102 (!t108) a0_0 a0_1 l0_2)) else (spec_RoundBest.j0 k a1 a2 a3 y102 true a0_0 a0_1 l0_2))) else (spec_RoundBest.j0 k a1 a2 a3 y102 true a0_0 a0_1 l0_2))) else (spec_RoundBest.j0 k a1 a2 a3 y102 true a0_0 a0_1 l0_2))) = some r := by first | (rw [hy102]; with_reducible exact H) | (have H2_ := (Option.bind_some _ _).symm.trans H; rw [hy102]; with_reducible exact H2_) | (have H2_ := (Option.bind_some _ _).symm.trans H; with_reducible exact H2_) | with_reducible exact H | (rw [hy102]; exact H) | exact H
 have Ny102 := Aside0.mk hy102
 clear hy102
 have HC5 := Aside0.mk H
 clear H
 go_enter Try.func29, Try.ntmps29
 go_upto_region 2 with (first | ((with_reducible refine gate_dst (N := 4) rfl ?_); refine be (cs := #[.int .i64 a0_0, .int .i64 a0_1, .slice A0_2 l0_2.length c0_2]) (t := 25) ?_; intro gb101 hg w6 hbox hb; have BK101 := Aside0.mk (hbox); have GW101 := gz w hg (uB0 HB); have GE101 := gz w hg (uB0 HB); replace HB := Aside0.mk (below_step (uB0 HB) hb); clear hb hbox hg) | ((with_reducible refine gate_dst (N := 13) rfl ?_); refine Kd.R_lit k43 _ 43 ?hg (N := 13) ?hd (xs := ([] : List (S43))) (inner := []) (ok := fun _ => True) (okp := fun _ => True) ?hr ?hp (fun _ hk => hk) trivial (Below.refl _ _) (Nat.le_refl _) (by simp) ?_; (case hd => rfl); (case hg => rfl); (case hr => first | (go_simp; done) | (go_simp; rfl)); (case hp => exact (Reps.none _ _)); intro v103 w7 ho8 hb hg_ hnew_; clear hg_ hnew_; (rw [← Ny102.out] at ho8); have HO104 := Aside0.mk (Kd.R_lower ho8 (below_size (uB1 HB GE101.out))); replace BK101 := bb BK101 hb; replace HB := Aside0.mk (below_step (uB1 HB GE101.out) hb); clear hb ho8))
 go_cut [37] (fun v37 wc => ∃ (kq : Nat) (x37_4 : Bool), v37 = .bool x37_4 ∧ Aside0 (spec_RoundBest.j0 kq a1 a2 a3 y102 x37_4 a0_0 a0_1 l0_2 = some r) ∧ Aside0 (kq ≤ k) ∧ Aside0 (Kd.R k43 43 wc w.heap.size (fun _ => True) v103 y102) ∧ Aside0 (wc.heap[gb101]? = some (.cells #[.int .i64 a0_0, .int .i64 a0_1, (.slice A0_2 l0_2.length c0_2)] 25 (0, 0))) ∧ Aside0 (Below w.heap.size w wc))
 case first =>
  have H := HC5.out; clear HC5; replace H := Option.bind_eq_some_iff.mp H; obtain ⟨t105, A90, H⟩ := H; replace H : (if t105 = true then ((spec_l1In.f a1 0 (wrap64 (a0_0 - 1))).bind fun t106 => (if t106 = true then ((spec_l1In.f a2 0 (wrap64 (a0_0 - 1))).bind fun t107 => (if t107 = true then ((spec_l1In.f a3 0 199).bind fun t108 => (spec_RoundBest.j0 k a1 a2 a3 y102 (!t108) a0_0 a0_1 l0_2)) else (spec_RoundBest.j0 k a1 a2 a3 y102 true a0_0 a0_1 l0_2))) else (spec_RoundBest.j0 k a1 a2 a3 y102 true a0_0 a0_1 l0_2))) else (spec_RoundBest.j0 k a1 a2 a3 y102 true a0_0 a0_1 l0_2)) = some r := H; have A9 := Aside0.mk A90; clear A90; by_cases c10 : t105 = true
  ·
   subst c10; rw [if_pos rfl] at H; replace H := Option.bind_eq_some_iff.mp H; obtain ⟨t106, A110, H⟩ := H; replace H : (if t106 = true then ((spec_l1In.f a2 0 (wrap64 (a0_0 - 1))).bind fun t107 => (if t107 = true then ((spec_l1In.f a3 0 199).bind fun t108 => (spec_RoundBest.j0 k a1 a2 a3 y102 (!t108) a0_0 a0_1 l0_2)) else (spec_RoundBest.j0 k a1 a2 a3 y102 true a0_0 a0_1 l0_2))) else (spec_RoundBest.j0 k a1 a2 a3 y102 true a0_0 a0_1 l0_2)) = some r := H; have A11 := Aside0.mk A110; clear A110; by_cases c12 : t106 = true
   ·
    subst c12; rw [if_pos rfl] at H; replace H := Option.bind_eq_some_iff.mp H; obtain ⟨t107, A130, H⟩ := H; replace H : (if t107 = true then ((spec_l1In.f a3 0 199).bind fun t108 => (spec_RoundBest.j0 k a1 a2 a3 y102 (!t108) a0_0 a0_1 l0_2)) else (spec_RoundBest.j0 k a1 a2 a3 y102 true a0_0 a0_1 l0_2)) = some r := H; have A13 := Aside0.mk A130; clear A130; by_cases c14 : t107 = true
    ·
     subst c14; rw [if_pos rfl] at H; replace H := Option.bind_eq_some_iff.mp H; obtain ⟨t108, A150, H⟩ := H; replace H : (spec_RoundBest.j0 k a1 a2 a3 y102 (!t108) a0_0 a0_1 l0_2) = some r := H; have A15 := Aside0.mk A150; clear A150; have H' := Aside0.mk H; clear H; obtain ⟨hcz16_0, hcz16_1, hcz16_2, hfz16_0, hfz16_1, hfz16_2⟩ := bc3 BK101; go_wp2_with (first | ((with_reducible refine gate_callee (f := 65) rfl ?_); refine goesL_ (some 15) rfl rfl Try.func65 (by kernel_rfl) rfl #[.agg #[.int .i64 a0_0, .int .i64 a0_1, .slice A0_2 l0_2.length c0_2]] rfl ul ?_; (with_reducible refine (spec_l6Ok.calls k a0_0 a0_1 _ _ l0_2 true _ ?side1 ?side2 A9.out).mono ?_); (case side1 => exact uC HR0_2 HB); (case side2 => exact HC0_2.out); rintro e w17 ⟨rfl, hb⟩; refine ⟨_, rfl, ?_⟩; replace HO104 := Aside0.mk (Kd.R_below (ur HO104) hb); replace BK101 := bb BK101 hb; replace HB := Aside0.mk (below_step (uB1 HB GE101.out) hb); (try clear hb); obtain ⟨hcz18_0, hcz18_1, hcz18_2, hfz18_0, hfz18_1, hfz18_2⟩ := bc3 BK101) | (go_at_call 66; (with_reducible refine (spec_l1In.calls a1 0 (wrap64 (a0_0 - 1)) true _ A11.out).mono ?_); rintro e w' ⟨rfl, ⟨nd, rfl⟩⟩) | (go_at_call 66; (with_reducible refine (spec_l1In.calls a2 0 (wrap64 (a0_0 - 1)) true _ A13.out).mono ?_); rintro e w' ⟨rfl, ⟨nd, rfl⟩⟩) | (go_at_call 66; (with_reducible refine (spec_l1In.calls a3 0 199 t108 _ A15.out).mono ?_); rintro e w' ⟨rfl, ⟨nd, rfl⟩⟩)); go_meet
     case rel => exact ⟨_, (!t108), ue, H', ⟨by first | omega | exact Nat.le_refl _⟩, ⟨ur HO104⟩, ⟨ub BK101⟩, ⟨uB1 HB GE101.out⟩⟩
    ·
     replace c14 := Bool.eq_false_iff.mpr c14; subst c14; rw [if_neg (show ¬ (false = true) by decide)] at H; have H' := Aside0.mk H; clear H; obtain ⟨hcz19_0, hcz19_1, hcz19_2, hfz19_0, hfz19_1, hfz19_2⟩ := bc3 BK101; go_wp2_with (first | ((with_reducible refine gate_callee (f := 65) rfl ?_); refine goesL_ (some 15) rfl rfl Try.func65 (by kernel_rfl) rfl #[.agg #[.int .i64 a0_0, .int .i64 a0_1, .slice A0_2 l0_2.length c0_2]] rfl ul ?_; (with_reducible refine (spec_l6Ok.calls k a0_0 a0_1 _ _ l0_2 true _ ?side1 ?side2 A9.out).mono ?_); (case side1 => exact uC HR0_2 HB); (case side2 => exact HC0_2.out); rintro e w20 ⟨rfl, hb⟩; refine ⟨_, rfl, ?_⟩; replace HO104 := Aside0.mk (Kd.R_below (ur HO104) hb); replace BK101 := bb BK101 hb; replace HB := Aside0.mk (below_step (uB1 HB GE101.out) hb); (try clear hb); obtain ⟨hcz21_0, hcz21_1, hcz21_2, hfz21_0, hfz21_1, hfz21_2⟩ := bc3 BK101) | (go_at_call 66; (with_reducible refine (spec_l1In.calls a1 0 (wrap64 (a0_0 - 1)) true _ A11.out).mono ?_); rintro e w' ⟨rfl, ⟨nd, rfl⟩⟩) | (go_at_call 66; (with_reducible refine (spec_l1In.calls a2 0 (wrap64 (a0_0 - 1)) false _ A13.out).mono ?_); rintro e w' ⟨rfl, ⟨nd, rfl⟩⟩)); go_meet
     case rel => exact ⟨_, (true), ue, H', ⟨by first | omega | exact Nat.le_refl _⟩, ⟨ur HO104⟩, ⟨ub BK101⟩, ⟨uB1 HB GE101.out⟩⟩
   ·
    replace c12 := Bool.eq_false_iff.mpr c12; subst c12; rw [if_neg (show ¬ (false = true) by decide)] at H; have H' := Aside0.mk H; clear H; obtain ⟨hcz22_0, hcz22_1, hcz22_2, hfz22_0, hfz22_1, hfz22_2⟩ := bc3 BK101; go_wp2_with (first | ((with_reducible refine gate_callee (f := 65) rfl ?_); refine goesL_ (some 15) rfl rfl Try.func65 (by kernel_rfl) rfl #[.agg #[.int .i64 a0_0, .int .i64 a0_1, .slice A0_2 l0_2.length c0_2]] rfl ul ?_; (with_reducible refine (spec_l6Ok.calls k a0_0 a0_1 _ _ l0_2 true _ ?side1 ?side2 A9.out).mono ?_); (case side1 => exact uC HR0_2 HB); (case side2 => exact HC0_2.out); rintro e w23 ⟨rfl, hb⟩; refine ⟨_, rfl, ?_⟩; replace HO104 := Aside0.mk (Kd.R_below (ur HO104) hb); replace BK101 := bb BK101 hb; replace HB := Aside0.mk (below_step (uB1 HB GE101.out) hb); (try clear hb); obtain ⟨hcz24_0, hcz24_1, hcz24_2, hfz24_0, hfz24_1, hfz24_2⟩ := bc3 BK101) | (go_at_call 66; (with_reducible refine (spec_l1In.calls a1 0 (wrap64 (a0_0 - 1)) false _ A11.out).mono ?_); rintro e w' ⟨rfl, ⟨nd, rfl⟩⟩)); go_meet
    case rel => exact ⟨_, (true), ue, H', ⟨by first | omega | exact Nat.le_refl _⟩, ⟨ur HO104⟩, ⟨ub BK101⟩, ⟨uB1 HB GE101.out⟩⟩
  ·
   replace c10 := Bool.eq_false_iff.mpr c10; subst c10; rw [if_neg (show ¬ (false = true) by decide)] at H; have H' := Aside0.mk H; clear H; obtain ⟨hcz25_0, hcz25_1, hcz25_2, hfz25_0, hfz25_1, hfz25_2⟩ := bc3 BK101; go_wp2_with (((with_reducible refine gate_callee (f := 65) rfl ?_); refine goesL_ (some 15) rfl rfl Try.func65 (by kernel_rfl) rfl #[.agg #[.int .i64 a0_0, .int .i64 a0_1, .slice A0_2 l0_2.length c0_2]] rfl ul ?_; (with_reducible refine (spec_l6Ok.calls k a0_0 a0_1 _ _ l0_2 false _ ?side1 ?side2 A9.out).mono ?_); (case side1 => exact uC HR0_2 HB); (case side2 => exact HC0_2.out); rintro e w26 ⟨rfl, hb⟩; refine ⟨_, rfl, ?_⟩; replace HO104 := Aside0.mk (Kd.R_below (ur HO104) hb); replace BK101 := bb BK101 hb; replace HB := Aside0.mk (below_step (uB1 HB GE101.out) hb); (try clear hb))); go_meet
   case rel => exact ⟨_, (true), ue, H', ⟨by first | omega | exact Nat.le_refl _⟩, ⟨ur HO104⟩, ⟨ub BK101⟩, ⟨uB1 HB GE101.out⟩⟩
 case rest =>
  clear HC5
  obtain ⟨kq, x37_4, rfl, HA, HJ4, HO_9, BK101, HB⟩ := hcut
  cases kq with
  | zero => exact absurd HA.out (by simp [spec_RoundBest.j0])
  | succ kj4 =>
   have H := HA.out; clear HA; simp only [spec_RoundBest.j0] at H; by_cases c27 : x37_4 = true
   ·
    subst c27; rw [if_pos rfl] at H; obtain rfl := Option.some.inj H; go_wp2; go_ret; exact ⟨_, by first | rfl | (simp [errW_none, errW_some] <;> rfl) | (simp [*, errW_none, errW_some] <;> rfl), by first | exact Kd.R_nil _ _ _ _ _ | exact Kd.N_nil _ _ _ _ _ | exact Kd.V_nil _ _ _ _ _ | exact Kd.Q_nil _ _ _ _ _ | exact Kd.S_nil _ _ _ _ _, uB1 HB GE101.out⟩
   ·
    replace c27 := Bool.eq_false_iff.mpr c27; subst c27; rw [if_neg (show ¬ (false = true) by decide)] at H; replace H := Option.bind_eq_some_iff.mp H; obtain ⟨t109, A280, H⟩ := H; replace H : (spec_RoundBest.l0 kj4 a2 y102 t109 99999 0) = some r := H; have A28 := Aside0.mk A280; clear A280; have H' := Aside0.mk H; clear H; obtain ⟨hcz29_0, hcz29_1, hcz29_2, hfz29_0, hfz29_1, hfz29_2⟩ := bc3 BK101; go_wp2_with (((with_reducible refine gate_callee (f := 72) rfl ?_); refine goesL_ (some 41) rfl rfl Try.func72 (by kernel_rfl) rfl #[.agg #[.int .i64 a0_0, .int .i64 a0_1, .slice A0_2 l0_2.length c0_2], .int .i64 a1, .int .i64 a3, .int .i64 6] rfl ul ?_; (with_reducible refine (spec_l7All.calls kj4 a0_0 a0_1 _ _ l0_2 a1 a3 6 t109 _ ?side1 ?side2 A28.out).mono ?_); (case side1 => exact uC HR0_2 HB); (case side2 => exact HC0_2.out); rintro e w30 ⟨v110, rfl, ho0, hb⟩; refine ⟨_, rfl, ?_⟩; have HO111 := Aside0.mk (Kd.N_lower (Kd.N_mono (ok' := fun k_ => some k_ ≠ (v103 : Value).ownBlock ∧ k_ ≠ gb101) ho0 (fun k_ hk_ => ⟨(Kd.fresh' (Kd.R_lt (ur HO_9)) k_ hk_), (Kd.freshB (g := gb101) (o := .cells #[.int .i64 a0_0, .int .i64 a0_1, .slice A0_2 l0_2.length c0_2] 25 (0, 0)) (ub BK101) k_ hk_)⟩)) (below_size (uB1 HB GE101.out))); replace HO_9 := Aside0.mk (Kd.R_below (ur HO_9) hb); replace BK101 := bb BK101 hb; replace HB := Aside0.mk (below_step (uB1 HB GE101.out) hb); (try clear hb); (try clear ho0))); go_loopg [9, 11, 12] kj4 (fun kq v9 v11 v12 w' => ∃ (x9_2 : List (S43)) (x11_2 : Int) (x12_2 : Int), v11 = .int .i64 x11_2 ∧ v12 = .int .i64 x12_2 ∧ Aside0 (spec_RoundBest.l0 kq a2 x9_2 t109 x11_2 x12_2 = some r) ∧ Aside0 (kq ≤ kj4) ∧ Aside0 (Kd.R k43 43 w' w.heap.size (fun _ => True) v9 x9_2) ∧ Aside0 (Kd.N (Kd.slice 3 (Kd.int .i64)) 28 w' w.heap.size (fun k_ => some k_ ≠ (v9 : Value).ownBlock ∧ k_ ≠ gb101) v110 t109) ∧ Aside0 (w'.heap[gb101]? = some (.cells #[.int .i64 a0_0, .int .i64 a0_1, (.slice A0_2 l0_2.length c0_2)] 25 (0, 0))) ∧ Aside0 (Below w.heap.size w w'))
    case atStart => exact ⟨(y102), (99999), (0), ue, ue, H', ⟨Nat.le_refl _⟩, ⟨ur HO_9⟩, ⟨by (with_reducible repeat (first | apply Kd.N_alloc | apply Kd.N_drewN | apply Kd.N_drew)); exact HO111.out⟩, ⟨ub BK101⟩, ⟨uB1 HB GE101.out⟩⟩
    case round =>
     clear H'
     clear hcz29_0 hcz29_1 hcz29_2 hfz29_0 hfz29_1 hfz29_2
     obtain ⟨x9_2, x11_2, x12_2, rfl, rfl, HA, HK2, HO_9, HO_10, BK101, HB⟩ := hrel
     cases gk with
     | zero => exact absurd HA.out (by simp [spec_RoundBest.l0])
     | succ k2 =>
      have H := HA.out; clear HA; simp only [spec_RoundBest.l0] at H; by_cases c31 : x12_2 < (t109.length : Int)
      ·
       rw [if_pos c31] at H; have c31b0 := dl c31; clear c31; by_cases c32 : 0 ≤ x12_2
       ·
        rw [if_pos c32] at H; have c32b0 := de c32; clear c32; by_cases c33 : 0 ≤ a2
        ·
         rw [if_pos c33] at H; have c33b0 := de c33; clear c33; by_cases c34 : a2 < ((rd_L3 t109 x12_2).length : Int)
         ·
          rw [if_pos c34] at H; have c34b0 := dl c34; clear c34; by_cases c35 : (rd (rd_L3 t109 x12_2) a2) < x11_2
          ·
           rw [if_pos c35] at H; have c35b0 := dl c35; clear c35; by_cases c36 : x9_2.length < 8796093022208
           ·
            rw [if_pos c36] at H; have LMc36 := Aside0.mk c36; clear c36; obtain ⟨y116, hy116⟩ : ∃ y_ : List (S43), y_ = (x9_2 ++ [(⟨x12_2, rd (rd_L3 t109 x12_2) a2⟩ : S43)]) := ⟨_, rfl⟩
            replace H : (spec_RoundBest.l0 k2 a2 y116 t109 (rd (rd_L3 t109 x12_2) a2) (wrap64 (x12_2 + 1))) = some r := by first | (rw [hy116]; with_reducible exact H) | (have H2_ := (Option.bind_some _ _).symm.trans H; rw [hy116]; with_reducible exact H2_) | (have H2_ := (Option.bind_some _ _).symm.trans H; with_reducible exact H2_) | with_reducible exact H | (rw [hy116]; exact H) | exact H
            have Ny116 := Aside0.mk hy116; clear hy116; have H' := Aside0.mk H; clear H; obtain ⟨Ao37, co37, eo37⟩ := Kd.N_slice HO_10.out; subst eo37; have p112 : 0 ≤ (x12_2 : Int) := ua; have q112 : x12_2 < (t109.length : Int) := ua; obtain ⟨ad112, A112_0, c112_0, e112, hx112_0, hl112_0, hi112_0⟩ := at_L3 (Kd.N_reads' HO_10.out).2.2 x12_2 p112 q112
            cases e112
            obtain ⟨ce112, hce112, hMe112, hcc112⟩ := Kd.N_get HO_10.out [] x12_2 p112 (by first | exact q112 | exact ua | (have e_ := (Kd.N_reads' HO_10.out).1; omega)); obtain ⟨ua112_0, uc112_0, rfl, ul112_0, ge112_0⟩ := Kd.FK_slice_open hMe112; have hv112_0 := hcc112 0 _ rfl; rw [Nat.add_zero, show ((Kd.slice 3 (Kd.int .i64))).sz = 1 from rfl, Nat.mul_one] at hv112_0; replace hv112_0 := Option.some.inj (hv112_0.symm.trans hx112_0); injection hv112_0 with hva_ hvn_ hvc_
            rw [hva_] at ge112_0; rw [hvc_] at ul112_0; have HL112_0 := Aside0.mk (show Kd.V (Kd.int .i64) 3 _ w.heap.size _ _ (rd_L3 t109 x12_2) from Kd.V_mk ul112_0 ge112_0); clear hva_ hvn_ hvc_ ge112_0 ul112_0; clear hcc112 hce112; have HR112_0 := Aside0.mk hi112_0; have HC112_0 := Aside0.mk hl112_0; clear hi112_0 hl112_0; replace p112 := eq_true p112; replace q112 := eq_true q112; have p113 : 0 ≤ (a2 : Int) := ua; have q113 : a2 < ((rd_L3 t109 x12_2).length : Int) := ua; obtain ⟨ad113, e113, hx113_0⟩ := Kd.at_int (by repeat ((with_reducible exact HR112_0.out))) a2 p113 q113
            cases e113
            replace p113 := eq_true p113; replace q113 := eq_true q113; have p114 : 0 ≤ (x12_2 : Int) := ua; have q114 : x12_2 < (t109.length : Int) := ua; obtain ⟨ad114, A114_0, c114_0, e114, hx114_0, hl114_0, hi114_0⟩ := at_L3 (Kd.N_reads' HO_10.out).2.2 x12_2 p114 q114; obtain rfl : ad112 = ad114 := (by injection e114)
            obtain ⟨ce114, hce114, hMe114, hcc114⟩ := Kd.N_get HO_10.out [] x12_2 p114 (by first | exact q114 | exact ua | (have e_ := (Kd.N_reads' HO_10.out).1; omega)); obtain ⟨ua114_0, uc114_0, rfl, ul114_0, ge114_0⟩ := Kd.FK_slice_open hMe114; have hv114_0 := hcc114 0 _ rfl; rw [Nat.add_zero, show ((Kd.slice 3 (Kd.int .i64))).sz = 1 from rfl, Nat.mul_one] at hv114_0; replace hv114_0 := Option.some.inj (hv114_0.symm.trans hx114_0); injection hv114_0 with hva_ hvn_ hvc_
            rw [hva_] at ge114_0; rw [hvc_] at ul114_0; have HL114_0 := Aside0.mk (show Kd.V (Kd.int .i64) 3 _ w.heap.size _ _ (rd_L3 t109 x12_2) from Kd.V_mk ul114_0 ge114_0); clear hva_ hvn_ hvc_ ge114_0 ul114_0; clear hcc114 hce114; have HR114_0 := Aside0.mk hi114_0; have HC114_0 := Aside0.mk hl114_0; clear hi114_0 hl114_0; replace p114 := eq_true p114; replace q114 := eq_true q114; have ea_ := Option.some.inj (hx112_0.symm.trans hx114_0); injection ea_ with ea_ en_ ec_
            subst ea_; subst ec_; clear en_; have p115 : 0 ≤ (a2 : Int) := ua; have q115 : a2 < ((rd_L3 t109 x12_2).length : Int) := ua; obtain ⟨ad115, e115, hx115_0⟩ := Kd.at_int (by repeat ((with_reducible exact HR114_0.out))) a2 p115 q115
            cases e115
            replace p115 := eq_true p115; replace q115 := eq_true q115; go_wp2_with (((with_reducible refine gate_builtin (b := .append) (xs := #[.tmp 64, .tmp 68]) rfl ?_); at_builtin; refine Kd.R_append k43 (w0 := w) w.heap.size rfl (.tmp 64) (.tmp 68) 40 43 (.agg #[(.int .i64 0), (.int .i64 0)]) 16 rfl Try.underlying40 info43 rfl (by decide) (by omega) u9 x9_2 (⟨x12_2, rd (rd_L3 t109 x12_2) a2⟩ : S43) [.int .i64 x12_2, .int .i64 (rd (rd_L3 t109 x12_2) a2)] (fun _ => True) (fun _ => False) rfl rfl ?aP (fun _ hk => hk.elim) ?aF ?aO ?aB ?aS ?aL ?_; (case aP => exact k43_mkM _ _ _ (⟨x12_2, rd (rd_L3 t109 x12_2) a2⟩ : S43)); (case aB => exact (uB1 HB GE101.out)); (case aF => exact (fun _ _ => trivial)); (case aO => exact (ur HO_9)); (case aS => exact (below_size (uB1 HB GE101.out))); (case aL => have := LMc36.out; omega); intro v117 w38 ho hb hg hat; rw [← Ny116.out] at ho; replace HO_10 := Aside0.mk (Kd.N_afterv (ok := (fun k_ => k_ ≠ gb101)) (by (with_reducible repeat (first | apply Kd.N_alloc | apply Kd.N_drewN | apply Kd.N_drew)); exact Kd.N_mono HO_10.out (fun _ hk => ⟨hk.2, hk.1⟩)) hg hat); replace BK101 := bg BK101 hg (Kd.R_ne HO_9.out BK101.out (by decide)); replace HL112_0 := Aside0.mk (Kd.V_afterv (ok := (fun k_ => some k_ ≠ (.slice (some ad112) t109.length co37 : Value).ownBlock ∧ k_ ≠ gb101)) (by (with_reducible repeat (first | apply Kd.V_alloc | apply Kd.V_drewN | apply Kd.V_drew)); exact Kd.V_mono HL112_0.out (fun _ hk => ⟨⟨hk.2, hk.1.2⟩, hk.1.1⟩)) hg hat); replace HL114_0 := Aside0.mk (Kd.V_afterv (ok := (fun k_ => some k_ ≠ (.slice (some ad112) t109.length co37 : Value).ownBlock ∧ k_ ≠ gb101)) (by (with_reducible repeat (first | apply Kd.V_alloc | apply Kd.V_drewN | apply Kd.V_drew)); exact Kd.V_mono HL114_0.out (fun _ hk => ⟨⟨hk.2, hk.1.2⟩, hk.1.1⟩)) hg hat); replace HB := Aside0.mk (hb); have HO118 := Aside0.mk (ho); clear HO_9; clear ho hb hg hat)); go_roundg k2
            case measure => have := HJ4.out; have := HK2.out; omega
            case rel => exact ⟨(y116), (rd (rd_L3 t109 x12_2) a2), (wrap64 (x12_2 + 1)), ue, ue, H', ⟨by have := HJ4.out; have := HK2.out; omega⟩, ⟨ur HO118⟩, ⟨by (with_reducible repeat (first | apply Kd.N_alloc | apply Kd.N_drewN | apply Kd.N_drew)); exact Kd.N_mono HO_10.out (fun _ hk => ⟨hk.2, hk.1⟩)⟩, ⟨ub BK101⟩, ⟨uB1 HB GE101.out⟩⟩
           ·
            rw [if_neg c36] at H; exact absurd H (by simp)
          ·
           rw [if_neg c35] at H; have c35b0 := DL c35; clear c35; have H' := Aside0.mk H; clear H; obtain ⟨Ao39, co39, eo39⟩ := Kd.N_slice HO_10.out; subst eo39; have p112 : 0 ≤ (x12_2 : Int) := ua; have q112 : x12_2 < (t109.length : Int) := ua; obtain ⟨ad112, A112_0, c112_0, e112, hx112_0, hl112_0, hi112_0⟩ := at_L3 (Kd.N_reads' HO_10.out).2.2 x12_2 p112 q112
           cases e112
           obtain ⟨ce112, hce112, hMe112, hcc112⟩ := Kd.N_get HO_10.out [] x12_2 p112 (by first | exact q112 | exact ua | (have e_ := (Kd.N_reads' HO_10.out).1; omega)); obtain ⟨ua112_0, uc112_0, rfl, ul112_0, ge112_0⟩ := Kd.FK_slice_open hMe112; have hv112_0 := hcc112 0 _ rfl; rw [Nat.add_zero, show ((Kd.slice 3 (Kd.int .i64))).sz = 1 from rfl, Nat.mul_one] at hv112_0; replace hv112_0 := Option.some.inj (hv112_0.symm.trans hx112_0); injection hv112_0 with hva_ hvn_ hvc_
           rw [hva_] at ge112_0; rw [hvc_] at ul112_0; have HL112_0 := Aside0.mk (show Kd.V (Kd.int .i64) 3 _ w.heap.size _ _ (rd_L3 t109 x12_2) from Kd.V_mk ul112_0 ge112_0); clear hva_ hvn_ hvc_ ge112_0 ul112_0; clear hcc112 hce112; have HR112_0 := Aside0.mk hi112_0; have HC112_0 := Aside0.mk hl112_0; clear hi112_0 hl112_0; replace p112 := eq_true p112; replace q112 := eq_true q112; have p113 : 0 ≤ (a2 : Int) := ua; have q113 : a2 < ((rd_L3 t109 x12_2).length : Int) := ua; obtain ⟨ad113, e113, hx113_0⟩ := Kd.at_int (by repeat ((with_reducible exact HR112_0.out))) a2 p113 q113
           cases e113
           replace p113 := eq_true p113; replace q113 := eq_true q113; go_wp2; go_roundg k2
           case measure => have := HJ4.out; have := HK2.out; omega
           case rel => exact ⟨(x9_2), (x11_2), (wrap64 (x12_2 + 1)), ue, ue, H', ⟨by have := HJ4.out; have := HK2.out; omega⟩, ⟨ur HO_9⟩, ⟨by (with_reducible repeat (first | apply Kd.N_alloc | apply Kd.N_drewN | apply Kd.N_drew)); exact HO_10.out⟩, ⟨ub BK101⟩, ⟨uB1 HB GE101.out⟩⟩
         ·
          rw [if_neg c34] at H; exact absurd H (by simp)
        ·
         rw [if_neg c33] at H; exact absurd H (by simp)
       ·
        rw [if_neg c32] at H; exact absurd H (by simp)
      ·
       rw [if_neg c31] at H; have c31b0 := DL c31; clear c31; obtain rfl := Option.some.inj H; obtain ⟨Ao40, co40, eo40⟩ := Kd.N_slice HO_10.out; subst eo40; go_wp2; go_ret; exact ⟨_, by first | rfl | (simp [errW_none, errW_some] <;> rfl) | (simp [*, errW_none, errW_some] <;> rfl), by (with_reducible repeat (first | apply Kd.R_alloc | apply Kd.R_drewN | apply Kd.R_drew)); exact HO_9.out, uB1 HB GE101.out⟩

end Go.Proofs.Ytcklifkbodmoaaa.P
