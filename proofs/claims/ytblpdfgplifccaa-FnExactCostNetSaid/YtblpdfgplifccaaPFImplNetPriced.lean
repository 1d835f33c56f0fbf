-- written for this claim by a program (wip/gen/myprint.py over the print tool). Not trusted: Lean checks it.
import Derived.Test.YtblpdfgplifccaaPx0
import Derived.Test.YtblpdfgplifccaaHUp
import Derived.Test.YtblpdfgplifccaaPFImplArc100
import Derived.Test.YtblpdfgplifccaaHLib
namespace Go.Proofs.Ytblpdfgplifccaa.P
open Go.RowKit Go.Proofs.YtblpdfgplifccaaV.PrintWords Go.Proofs.YtblpdfgplifccaaV.PrintLast
set_option linter.unusedVariables false
set_option linter.unusedSimpArgs false

/-! ### impl_Net_priced: function 59 -/
def impl_Net_priced.l0 : Nat → List Int → Int → Int → Int → List (S33) → Option (Int × (List (S33)))
 | 0, _, _, _, _, _ => none
 | k + 1, x15, x16, x17, x110000, x110001 => if x17 < x16 then (if 0 ≤ x17 then (if x17 < (x15.length : Int) then (if x17 < (x110001.length : Int) then (impl_Net_priced.l0 k x15 x16 (wrap64 (x17 + 1)) x110000 (x110001.set (x17 : Int).toNat (⟨(rd_T33 x110001 x17).f0, (rd_T33 x110001 x17).f1, rd x15 x17, (rd_T33 x110001 x17).f3, (rd_T33 x110001 x17).f4⟩ : S33))) else (none)) else (none)) else (none)) else (some (x110000, x110001))
def impl_Net_priced.f (k : Nat) (a0_0 : Int) (l0_1 : List (S33)) (l1 : List Int) : Option (Int × (List (S33))) := (slices_Clone_Arc.f l0_1).bind fun t103 => ((impl_Arc_100.f t103).bind fun t106 => (impl_Net_priced.l0 k l1 (l1.length : Int) 0 a0_0 t106))
def impl_Net_priced.T1 : Bool × List (List Nat × List Nat) := (true, [([], []), ([0], [0]), ([], []), ([2], [2]), ([3], [3]), ([4, 4], [4]), ([1, 5], [1, 5]), ([], []), ([7, 6, 5, 0, 1, 2, 3, 4, 5, 6, 7], [6, 7])])
def impl_Net_priced.B1 : List Nat := [0, 1, 0, 4, 12, 28, 63, 0, 255]
theorem impl_Net_priced.tab1 : rtab .any (opsOf Try.f59 1) = impl_Net_priced.T1 := by kernel_rfl
theorem impl_Net_priced.bits1 : waitsOk impl_Net_priced.T1.2 impl_Net_priced.B1 = true := by kernel_rfl
set_option maxHeartbeats 8000000 in
set_option maxRecDepth 100000 in
theorem impl_Net_priced.calls (k : Nat) (a0_0 : Int) (A0_1 : Option Addr) (c0_1 : Nat) (l0_1 : List (S33)) (A1 : Option Addr) (c1 : Nat) (l1 : List Int) (r1 : Int) (r2 : List (S33)) (w : World) (hr0_1 : Kd.C k33 w A0_1 l0_1.length l0_1) (hc0_1 : l0_1.length ≤ c0_1) (hr1 : Kd.C (Kd.int .i64) w A1 l1.length l1) (hc1 : l1.length ≤ c1) (h : impl_Net_priced.f k a0_0 l0_1 l1 = some (r1, r2)) :
  Calls Try.prog 59 #[.agg #[.int .i64 a0_0, .slice A0_1 l0_1.length c0_1], .slice A1 l1.length c1] w fun e w' => ∃ v1_ : Value, e = .returned (.agg #[.int .i64 r1, v1_]) ∧ Kd.R k33 33 w' w.heap.size (fun _ => True) v1_ r2 ∧ Below w.heap.size w w' := by
 have hu25 := Try.underlying25
 have HR0_1 := Aside0.mk hr0_1
 have HC0_1 := Aside0.mk hc0_1
 clear hr0_1 hc0_1
 have HR1 := Aside0.mk hr1
 have HC1 := Aside0.mk hc1
 clear hr1 hc1
 have HB := Aside0.mk (Below.refl w.heap.size w)
 have H : ((slices_Clone_Arc.f l0_1).bind fun t103 => ((impl_Arc_100.f t103).bind fun t106 => (impl_Net_priced.l0 k l1 (l1.length : Int) 0 a0_0 t106))) = some (r1, r2) := h
 clear h
 replace H := Option.bind_eq_some_iff.mp H
 obtain ⟨t103, A30, H⟩ := H
 replace H : ((impl_Arc_100.f t103).bind fun t106 => (impl_Net_priced.l0 k l1 (l1.length : Int) 0 a0_0 t106)) = some (r1, r2) := H
 have A3 := Aside0.mk A30
 clear A30
 replace H := Option.bind_eq_some_iff.mp H
 obtain ⟨t106, A40, H⟩ := H
 replace H : (impl_Net_priced.l0 k l1 (l1.length : Int) 0 a0_0 t106) = some (r1, r2) := H
 have A4 := Aside0.mk A40
 clear A40
 have H' := Aside0.mk H
 clear H
 go_enter Try.func59, Try.ntmps59
 try go_wp2_with (first | ((with_reducible refine gate_dst (N := 2) rfl ?_); refine be (cs := #[.int .i64 a0_0, .slice A0_1 l0_1.length c0_1]) (t := 25) ?_; intro gb101 hg w5 hbox hb; have BK101 := Aside0.mk (hbox); have GW101 := gz w hg (uB0 HB); have GE101 := gz w hg (uB0 HB); replace HB := Aside0.mk (below_step (uB0 HB) hb); clear hb hbox hg) | ((with_reducible refine gate_dst (N := 4) rfl ?_); refine be (cs := #[.int .i64 0, .slice none 0 0]) (t := 25) ?_; intro gb102 hg w6 hbox hb; have BK102 := Aside0.mk (hbox); have GW102 := gz w hg (uB1 HB GE101.out); have GE102 := gz w hg (uB1 HB GE101.out); replace HB := Aside0.mk (below_step (uB1 HB GE101.out) hb); have NB101_102 := gl hg BK101; have NB102_101 := gr hg BK101; replace BK101 := bb BK101 hb; clear hb hbox hg))
 have n0_ := Aside0.mk (blk_drew BK101.out)
 have n1_ := Aside0.mk (blk_drew BK102.out)
 have n2_ := Aside0.mk (below_drew1 HB.out)
 clear BK101
 clear BK102
 clear HB
 have BK101 := n0_
 have BK102 := n1_
 have HB := n2_
 clear n0_ n1_ n2_
 refine start_ (n := 9) (S := fun w' => w'.cell? ⟨gb101, 0, none⟩ = some (.int .i64 a0_0) ∧ w'.cell? ⟨gb101, 1, none⟩ = some (.slice A0_1 l0_1.length c0_1)) (ds := []) (zt 9 0) (by kernel_rfl) rfl (by kernel_rfl) (b2_ BK101) (fun hHeld => ?_); refine with_tabW impl_Net_priced.tab1 impl_Net_priced.bits1 (fun HT_ HW_ => ?_)
 generalize w6.drew = w7 at BK101 BK102 HB hHeld ⊢
 refine pure_ (i := 0) (N := some 8) (v := ?_) (a' := ?_) (zt 9 1) rfl rfl (any_of HT_.out (by kernel_rfl)) (fun _ _ _ h => h) (Or.inl ⟨by rfl, ?_⟩) ?_ ?_
 rotate_left
 (intro w'; go_simp; with_reducible rfl)
 rotate_left
 (simp only [Act.put, List.setIfInBounds_toArray, List.set_cons_zero, List.set_cons_succ, i64_w, i32_w]; rfl)
 refine pure_ (i := 2) (N := some 10) (v := ?_) (a' := ?_) (zt 9 5) rfl rfl (any_of HT_.out (by kernel_rfl)) (fun _ _ _ h => h) (Or.inl ⟨by rfl, ?_⟩) ?_ ?_
 rotate_left
 (intro w'; go_simp; with_reducible rfl)
 rotate_left
 (simp only [Act.put, List.setIfInBounds_toArray, List.set_cons_zero, List.set_cons_succ, i64_w, i32_w]; rfl)
 refine take_ (i := 1) (N := some 9) (v := ?_) (a' := ?_) (zt 9 7) rfl rfl (take_ofW HT_.out HW_.out (by kernel_rfl)) (fun _ _ _ h => h) (Or.inl ⟨by rfl, ?_⟩) hHeld ?_ ?_
 rotate_left
 (rintro w' ⟨s0, s1⟩; go_simp; with_reducible rfl)
 rotate_left
 (simp only [Act.put, List.setIfInBounds_toArray, List.set_cons_zero, List.set_cons_succ, i64_w, i32_w]; rfl)
 refine take_ (i := 3) (N := some 11) (v := ?_) (a' := ?_) (zt 9 15) rfl rfl (take_ofW HT_.out HW_.out (by kernel_rfl)) (fun _ _ _ h => h) (Or.inl ⟨by rfl, ?_⟩) hHeld ?_ ?_
 rotate_left
 (rintro w' ⟨s0, s1⟩; go_simp; with_reducible rfl)
 rotate_left
 (simp only [Act.put, List.setIfInBounds_toArray, List.set_cons_zero, List.set_cons_succ, i64_w, i32_w]; rfl)
 refine join_ (σ := Value × Value × Nat) 1 (zt 9 255) (fun s_ => [(12, s_.1), (13, s_.2.1), (5, .pointer (some ⟨s_.2.2, 0, none⟩)), (14, .agg #[.int .i64 a0_0, s_.2.1])]) (fun s_ w' => (w'.cell? ⟨gb101, 0, none⟩ = some (.int .i64 a0_0) ∧ w'.cell? ⟨gb101, 1, none⟩ = some (.slice A0_1 l0_1.length c0_1)) ∧ (Kd.R k33 33 w' w.heap.size (fun _ => True) s_.2.1 t106) ∧ (w'.heap[gb101]? = some (.cells #[.int .i64 a0_0, .slice A0_1 l0_1.length c0_1] 25 (0, 0))) ∧ (w'.heap[gb102]? = some (.cells #[.int .i64 0, .slice none 0 0] 25 (0, 0))) ∧ (w'.heap[s_.2.2]? = some (.cells #[.int .i64 0, .slice none 0 0] 25 (0, 0))) ∧ (w.heap.size ≤ s_.2.2) ∧ (w.heap.size ≤ s_.2.2) ∧ (gb101 ≠ s_.2.2) ∧ (s_.2.2 ≠ gb101) ∧ (gb102 ≠ s_.2.2) ∧ (s_.2.2 ≠ gb102) ∧ (Below w.heap.size w w')) ?_ ?_
 rotate_left
 ·
  intro hCont; refine two_ (i := 4) (j := 7) (Ni := some 12) (Nj := some 5) (zt 9 31) (zt 9 143) rfl rfl rfl rfl (two_of HT_.out (by kernel_rfl)) (by decide) (by decide) (fun K hK => ?_) (fun K hK => ?_)
  ·
   skip
   refine goes_ Try.func101 (by kernel_rfl) rfl #[.slice A0_1 l0_1.length c0_1] (by rfl) rfl rfl ul ?_; with_reducible refine (slices_Clone_Arc.calls _ _ l0_1 t103 _ ?side1 ?side2 A3.out).mono ?_
   (case side1 => exact uC HR0_1 HB); (case side2 => exact HC0_1.out); rintro e w8 ⟨v104, rfl, ho0, hb⟩; refine ⟨_, rfl, ?_⟩; have HO105 := Aside0.mk (Kd.R_lower ho0 (below_size (uB2 HB GE101.out GE102.out))); replace BK101 := bb BK101 hb; replace BK102 := bb BK102 hb; replace HB := Aside0.mk (below_step (uB2 HB GE101.out GE102.out) hb); (try clear hb); (try clear hb2); (try clear hk); (try clear hi); (try clear ho0); obtain ⟨Ao9, co9, eo9⟩ := Kd.R_slice HO105.out; (first | subst eo9 | (injection eo9 with f1_ f2_ f3_; have f4_ := f1_.symm; have f5_ := f3_.symm; clear f1_ f2_ f3_; subst f4_; subst f5_)); refine hK.out _ _ (b2_ BK101) (fun hHeld => ?_); clear hK K; refine nz ?_
   refine two_ (i := 5) (j := 7) (Ni := some 13) (Nj := some 5) (zt 9 63) (zt 9 159) rfl rfl rfl rfl (two_of HT_.out (by kernel_rfl)) (by decide) (by decide) (fun K hK => ?_) (fun K hK => ?_)
   ·
    skip
    refine goes_ Try.func100 (by kernel_rfl) rfl #[.slice Ao9 t103.length co9] (by rfl) rfl rfl ul ?_; with_reducible refine (impl_Arc_100.calls (fun k_ => some k_ = (.slice Ao9 t103.length co9 : Value).ownBlock) (.slice Ao9 t103.length co9) t103 t106 w _ ?side1 ?side2 A4.out).mono ?_
    (case side1 => exact uB2 HB GE101.out GE102.out); (case side2 => exact Kd.R_tight rfl HO105.out); rintro e w10 ⟨v107, rfl, ho0, hb, hkp⟩; refine ⟨_, rfl, ?_⟩; replace BK101 := Aside0.mk (blk_kept (ub BK101) hkp (fun hs_ => (fun e_ => (Kd.R_ne HO105.out BK101.out (by decide)) e_) hs_)); replace BK102 := Aside0.mk (blk_kept (ub BK102) hkp (fun hs_ => (fun e_ => (Kd.R_ne HO105.out BK102.out (by decide)) e_) hs_)); have HO108 := Aside0.mk (Kd.R_mono (ok' := fun k_ => True) ho0 (fun k_ hk_ => trivial)); replace HB := Aside0.mk (hb); clear HO105; (try clear hb); (try clear hkp); (try clear ho0); obtain ⟨Ao11, co11, eo11⟩ := Kd.R_slice HO108.out; (first | subst eo11 | (injection eo11 with f1_ f2_ f3_; have f4_ := f1_.symm; have f5_ := f3_.symm; clear f1_ f2_ f3_; subst f4_; subst f5_)); refine hK.out _ _ (b2_ BK101) (fun hHeld => ?_); clear hK K; refine nz ?_
    refine qz HT_ 6 ?_; refine qo HT_ 7 (fun K hK => ?_); refine box_step ?hg (N := 5) ?hd (cs := #[.int .i64 0, .slice none 0 0]) (t := 25) ?hr ?_; (case hd => rfl); (case hg => rfl); (case hr => first | (go_simp; done) | (go_simp; rfl)); intro gb109 hg w12 hbox hb; replace HO108 := Aside0.mk (Kd.R_below (ur HO108) hb); have BK109 := Aside0.mk (hbox); have GW109 := gz w hg (uB2 HB GE101.out GE102.out); have GE109 := gz w hg (uB2 HB GE101.out GE102.out); replace HB := Aside0.mk (below_step (uB2 HB GE101.out GE102.out) hb); have NB101_109 := gl hg BK101; have NB109_101 := gr hg BK101; replace BK101 := bb BK101 hb; have NB102_109 := gl hg BK102; have NB109_102 := gr hg BK102; replace BK102 := bb BK102 hb; clear hb hbox hg; refine hK.out _ _ (b2_ BK101) (fun hHeld => ?_); clear hK K; refine nz ?_
    exact norm_ (by simp only [putAll, Act.put, List.setIfInBounds_toArray, List.set_cons_zero, List.set_cons_succ]) (hCont (.slice Ao9 t103.length co9, .slice Ao11 t106.length co11, gb109) _ ⟨hHeld, (ur HO108), (ub BK101), (ub BK102), (ub BK109), GW109.out, GE109.out, NB101_109.out, NB109_101.out, NB102_109.out, NB109_102.out, (uB3 HB GE101.out GE102.out GE109.out)⟩)
   ·
    skip
    refine box_step ?hg (N := 5) ?hd (cs := #[.int .i64 0, .slice none 0 0]) (t := 25) ?hr ?_; (case hd => rfl); (case hg => rfl); (case hr => first | (go_simp; done) | (go_simp; rfl)); intro gb109 hg w9 hbox hb; replace HO105 := Aside0.mk (Kd.R_below (ur HO105) hb); have BK109 := Aside0.mk (hbox); have GW109 := gz w hg (uB2 HB GE101.out GE102.out); have GE109 := gz w hg (uB2 HB GE101.out GE102.out); replace HB := Aside0.mk (below_step (uB2 HB GE101.out GE102.out) hb); have NB101_109 := gl hg BK101; have NB109_101 := gr hg BK101; replace BK101 := bb BK101 hb; have NB102_109 := gl hg BK102; have NB109_102 := gr hg BK102; replace BK102 := bb BK102 hb; clear hb hbox hg; obtain ⟨Ao10, co10, eo10⟩ := Kd.R_slice HO105.out; (first | subst eo10 | (injection eo10 with f1_ f2_ f3_; have f4_ := f1_.symm; have f5_ := f3_.symm; clear f1_ f2_ f3_; subst f4_; subst f5_)); refine hK.out _ _ (b2_ BK101) (fun hHeld => ?_); clear hK K; refine nz ?_
    refine qo HT_ 5 (fun K hK => ?_); refine goes_ Try.func100 (by kernel_rfl) rfl #[.slice Ao10 t103.length co10] (by rfl) rfl rfl ul ?_; with_reducible refine (impl_Arc_100.calls (fun k_ => some k_ = (.slice Ao10 t103.length co10 : Value).ownBlock) (.slice Ao10 t103.length co10) t103 t106 w _ ?side1 ?side2 A4.out).mono ?_
    (case side1 => exact uB3 HB GE101.out GE102.out GE109.out); (case side2 => exact Kd.R_tight rfl HO105.out); rintro e w11 ⟨v107, rfl, ho0, hb, hkp⟩; refine ⟨_, rfl, ?_⟩; replace BK101 := Aside0.mk (blk_kept (ub BK101) hkp (fun hs_ => (fun e_ => (Kd.R_ne HO105.out BK101.out (by decide)) e_) hs_)); replace BK102 := Aside0.mk (blk_kept (ub BK102) hkp (fun hs_ => (fun e_ => (Kd.R_ne HO105.out BK102.out (by decide)) e_) hs_)); replace BK109 := Aside0.mk (blk_kept (ub BK109) hkp (fun hs_ => (fun e_ => (Kd.R_ne HO105.out BK109.out (by decide)) e_) hs_)); have HO108 := Aside0.mk (Kd.R_mono (ok' := fun k_ => True) ho0 (fun k_ hk_ => trivial)); replace HB := Aside0.mk (hb); clear HO105; (try clear hb); (try clear hkp); (try clear ho0); obtain ⟨Ao12, co12, eo12⟩ := Kd.R_slice HO108.out; (first | subst eo12 | (injection eo12 with f1_ f2_ f3_; have f4_ := f1_.symm; have f5_ := f3_.symm; clear f1_ f2_ f3_; subst f4_; subst f5_)); refine hK.out _ _ (b2_ BK101) (fun hHeld => ?_); clear hK K; refine nz ?_
    refine qz HT_ 6 ?_; exact norm_ (by simp only [putAll, Act.put, List.setIfInBounds_toArray, List.set_cons_zero, List.set_cons_succ]) (hCont (.slice Ao10 t103.length co10, .slice Ao12 t106.length co12, gb109) _ ⟨hHeld, (ur HO108), (ub BK101), (ub BK102), (ub BK109), GW109.out, GE109.out, NB101_109.out, NB109_101.out, NB102_109.out, NB109_102.out, (uB3 HB GE101.out GE102.out GE109.out)⟩)
  ·
   skip
   refine box_step ?hg (N := 5) ?hd (cs := #[.int .i64 0, .slice none 0 0]) (t := 25) ?hr ?_; (case hd => rfl); (case hg => rfl); (case hr => first | (go_simp; done) | (go_simp; rfl)); intro gb109 hg w8 hbox hb; have BK109 := Aside0.mk (hbox); have GW109 := gz w hg (uB2 HB GE101.out GE102.out); have GE109 := gz w hg (uB2 HB GE101.out GE102.out); replace HB := Aside0.mk (below_step (uB2 HB GE101.out GE102.out) hb); have NB101_109 := gl hg BK101; have NB109_101 := gr hg BK101; replace BK101 := bb BK101 hb; have NB102_109 := gl hg BK102; have NB109_102 := gr hg BK102; replace BK102 := bb BK102 hb; clear hb hbox hg; refine hK.out _ _ (b2_ BK101) (fun hHeld => ?_); clear hK K; refine nz ?_
   refine qo HT_ 4 (fun K hK => ?_); refine goes_ Try.func101 (by kernel_rfl) rfl #[.slice A0_1 l0_1.length c0_1] (by rfl) rfl rfl ul ?_; with_reducible refine (slices_Clone_Arc.calls _ _ l0_1 t103 _ ?side1 ?side2 A3.out).mono ?_
   (case side1 => exact uC HR0_1 HB); (case side2 => exact HC0_1.out); rintro e w9 ⟨v104, rfl, ho0, hb⟩; refine ⟨_, rfl, ?_⟩; have HO105 := Aside0.mk (Kd.R_lower ho0 (below_size (uB3 HB GE101.out GE102.out GE109.out))); replace BK101 := bb BK101 hb; replace BK102 := bb BK102 hb; replace BK109 := bb BK109 hb; replace HB := Aside0.mk (below_step (uB3 HB GE101.out GE102.out GE109.out) hb); (try clear hb); (try clear hb2); (try clear hk); (try clear hi); (try clear ho0); obtain ⟨Ao10, co10, eo10⟩ := Kd.R_slice HO105.out; (first | subst eo10 | (injection eo10 with f1_ f2_ f3_; have f4_ := f1_.symm; have f5_ := f3_.symm; clear f1_ f2_ f3_; subst f4_; subst f5_)); refine hK.out _ _ (b2_ BK101) (fun hHeld => ?_); clear hK K; refine nz ?_
   refine qo HT_ 5 (fun K hK => ?_); refine goes_ Try.func100 (by kernel_rfl) rfl #[.slice Ao10 t103.length co10] (by rfl) rfl rfl ul ?_; with_reducible refine (impl_Arc_100.calls (fun k_ => some k_ = (.slice Ao10 t103.length co10 : Value).ownBlock) (.slice Ao10 t103.length co10) t103 t106 w _ ?side1 ?side2 A4.out).mono ?_
   (case side1 => exact uB3 HB GE101.out GE102.out GE109.out); (case side2 => exact Kd.R_tight rfl HO105.out); rintro e w11 ⟨v107, rfl, ho0, hb, hkp⟩; refine ⟨_, rfl, ?_⟩; replace BK101 := Aside0.mk (blk_kept (ub BK101) hkp (fun hs_ => (fun e_ => (Kd.R_ne HO105.out BK101.out (by decide)) e_) hs_)); replace BK102 := Aside0.mk (blk_kept (ub BK102) hkp (fun hs_ => (fun e_ => (Kd.R_ne HO105.out BK102.out (by decide)) e_) hs_)); replace BK109 := Aside0.mk (blk_kept (ub BK109) hkp (fun hs_ => (fun e_ => (Kd.R_ne HO105.out BK109.out (by decide)) e_) hs_)); have HO108 := Aside0.mk (Kd.R_mono (ok' := fun k_ => True) ho0 (fun k_ hk_ => trivial)); replace HB := Aside0.mk (hb); clear HO105; (try clear hb); (try clear hkp); (try clear ho0); obtain ⟨Ao12, co12, eo12⟩ := Kd.R_slice HO108.out; (first | subst eo12 | (injection eo12 with f1_ f2_ f3_; have f4_ := f1_.symm; have f5_ := f3_.symm; clear f1_ f2_ f3_; subst f4_; subst f5_)); refine hK.out _ _ (b2_ BK101) (fun hHeld => ?_); clear hK K; refine nz ?_
   refine qz HT_ 6 ?_; exact norm_ (by simp only [putAll, Act.put, List.setIfInBounds_toArray, List.set_cons_zero, List.set_cons_succ]) (hCont (.slice Ao10 t103.length co10, .slice Ao12 t106.length co12, gb109) _ ⟨hHeld, (ur HO108), (ub BK101), (ub BK102), (ub BK109), GW109.out, GE109.out, NB101_109.out, NB109_101.out, NB102_109.out, NB109_102.out, (uB3 HB GE101.out GE102.out GE109.out)⟩)
 rintro ⟨v104, v107, gb109⟩ w13 ⟨hS_, h0_, h1_, h2_, h3_, h4_, h5_, h6_, h7_, h8_, h9_, h10_⟩
 have n0_ : Aside0 (Kd.R k33 33 w13 w.heap.size (fun _ => True) v107 t106) := ⟨h0_⟩
 have n1_ : Aside0 (w13.heap[gb101]? = some (.cells #[.int .i64 a0_0, .slice A0_1 l0_1.length c0_1] 25 (0, 0))) := ⟨h1_⟩
 have n2_ : Aside0 (w13.heap[gb102]? = some (.cells #[.int .i64 0, .slice none 0 0] 25 (0, 0))) := ⟨h2_⟩
 have n3_ : Aside0 (w13.heap[gb109]? = some (.cells #[.int .i64 0, .slice none 0 0] 25 (0, 0))) := ⟨h3_⟩
 have n4_ : Aside0 (w.heap.size ≤ gb109) := ⟨h4_⟩
 have n5_ : Aside0 (w.heap.size ≤ gb109) := ⟨h5_⟩
 have n6_ : Aside0 (gb101 ≠ gb109) := ⟨h6_⟩
 have n7_ : Aside0 (gb109 ≠ gb101) := ⟨h7_⟩
 have n8_ : Aside0 (gb102 ≠ gb109) := ⟨h8_⟩
 have n9_ : Aside0 (gb109 ≠ gb102) := ⟨h9_⟩
 have n10_ : Aside0 (Below w.heap.size w w13) := ⟨h10_⟩
 clear BK101
 clear BK102
 clear HB
 clear h0_ h1_ h2_ h3_ h4_ h5_ h6_ h7_ h8_ h9_ h10_
 have HO108 := n0_
 have BK101 := n1_
 have BK102 := n2_
 have BK109 := n3_
 have GW109 := n4_
 have GE109 := n5_
 have NB101_109 := n6_
 have NB109_101 := n7_
 have NB102_109 := n8_
 have NB109_102 := n9_
 have HB := n10_
 clear n0_ n1_ n2_ n3_ n4_ n5_ n6_ n7_ n8_ n9_ n10_
 have hHeld : w13.cell? ⟨gb101, 0, none⟩ = some (.int .i64 a0_0) ∧ w13.cell? ⟨gb101, 1, none⟩ = some (.slice A0_1 l0_1.length c0_1) := hS_
 obtain ⟨Ao14, co14, eo14⟩ := Kd.R_slice HO108.out
 (first | subst eo14 | (injection eo14 with f1_ f2_ f3_; have f4_ := f1_.symm; have f5_ := f3_.symm; clear f1_ f2_ f3_; subst f4_; subst f5_))
 refine norm_ (a' := ?_) ?_ ?_
 rotate_left
 ·
  simp only [putAll, Act.put, List.setIfInBounds_toArray, List.set_cons_zero, List.set_cons_succ]; rfl
 refine qo HT_ 8 (fun K hK => ?_)
 have hs15 : w13.cell? ⟨gb109, 0, none⟩ = some (.int .i64 0) := (blk_cell BK109.out 0).trans rfl
 have hfs15 := blk_frozen BK109.out 0
 have hns15_0 := NB101_109.out
 have hns15_1 := NB102_109.out
 have hms15_0 := NB109_101.out
 have hms15_1 := NB109_102.out
 have hs16 : w13.cell? ⟨gb109, 1, none⟩ = some (.slice none 0 0) := (blk_cell BK109.out 1).trans rfl
 have hfs16 := blk_frozen BK109.out 1
 have hns16_0 := NB101_109.out
 have hns16_1 := NB102_109.out
 have hms16_0 := NB109_101.out
 have hms16_1 := NB109_102.out
 refine skip_ (w1 := ?_) (by rfl) rfl ?_ ?_
 rotate_left
 ·
  go_simp; rfl
 refine hK.out _ _ ⟨((cell_far (p := ⟨gb109, _, none⟩) NB101_109.out _).trans (((cell_far (p := ⟨gb109, _, none⟩) NB101_109.out _).trans (hHeld.1)))), ((cell_far (p := ⟨gb109, _, none⟩) NB101_109.out _).trans (((cell_far (p := ⟨gb109, _, none⟩) NB101_109.out _).trans (hHeld.2))))⟩ (fun hHeld => ?_)
 clear hK K
 refine done_ (done_of HT_.out (by kernel_rfl)) ?_
 try go_wp2
 go_loopg [17] k (fun kq v17 w' => ∃ (x17_1 : Int) (x110001_1 : List (S33)) (u110001 : Value), v17 = .int .i64 x17_1 ∧ Aside0 (impl_Net_priced.l0 kq l1 (l1.length : Int) x17_1 a0_0 x110001_1 = some (r1, r2)) ∧ Aside0 (kq ≤ k) ∧ Aside0 (Kd.R k33 33 w' w.heap.size (fun _ => True) u110001 x110001_1) ∧ Aside0 (w'.heap[gb101]? = some (.cells #[.int .i64 a0_0, (.slice A0_1 l0_1.length c0_1)] 25 (0, 0))) ∧ Aside0 (w'.heap[gb102]? = some (.cells #[.int .i64 0, (.slice none 0 0)] 25 (0, 0))) ∧ Aside0 (w'.heap[gb109]? = some (.cells #[.int .i64 a0_0, u110001] 25 (0, 0))) ∧ Aside0 (Below w.heap.size w w'))
 case atStart => exact ⟨(0), (t106), (.slice Ao14 t106.length co14), ue, H', ⟨Nat.le_refl _⟩, ⟨by (with_reducible repeat (first | apply Kd.R_alloc | apply Kd.R_drewN | apply Kd.R_drew)); exact Kd.R_mono (rf2 HO108 BK109) (fun _ hk => trivial)⟩, ⟨by (with_reducible repeat first | apply zbn | apply zbd | apply zba); refine fa2 ?_ NB101_109; exact ub BK101⟩, ⟨by (with_reducible repeat first | apply zbn | apply zbd | apply zba); refine fa2 ?_ NB102_109; exact ub BK102⟩, ⟨by (with_reducible repeat first | apply zbn | apply zbd | apply zba); refine pu2 (.int .i64 0) (.slice none 0 0) ?_; exact ub BK109⟩, ⟨uB3 HB GE101.out GE102.out GE109.out⟩⟩
 case round =>
  clear H'; try clear c1
  try clear p2
  try clear c5
  try clear c10
  obtain ⟨x17_1, x110001_1, u110001, rfl, HA, HK1, HO_110001, BK101, BK102, BK109, HB⟩ := hrel
  cases gk with
  | zero => exact absurd HA.out (by simp [impl_Net_priced.l0])
  | succ k1 =>
   have H := HA.out; clear HA; simp only [impl_Net_priced.l0] at H; by_cases c17 : x17_1 < (l1.length : Int)
   ·
    rw [if_pos c17] at H; have c17b0 := dl c17; clear c17; by_cases c18 : 0 ≤ x17_1
    ·
     rw [if_pos c18] at H; have c18b0 := de c18; clear c18; by_cases c19 : x17_1 < (l1.length : Int)
     ·
      rw [if_pos c19] at H; have c19b0 := dl c19; clear c19; by_cases c20 : x17_1 < (x110001_1.length : Int)
      ·
       rw [if_pos c20] at H; have c20b0 := dl c20; clear c20; obtain ⟨y111, hy111⟩ : ∃ y_ : List (S33), y_ = (x110001_1.set (x17_1 : Int).toNat (⟨(rd_T33 x110001_1 x17_1).f0, (rd_T33 x110001_1 x17_1).f1, rd l1 x17_1, (rd_T33 x110001_1 x17_1).f3, (rd_T33 x110001_1 x17_1).f4⟩ : S33)) := ⟨_, rfl⟩
       replace H : (impl_Net_priced.l0 k1 l1 (l1.length : Int) (wrap64 (x17_1 + 1)) a0_0 y111) = some (r1, r2) := by first | (rw [hy111]; with_reducible exact H) | (have H2_ := (Option.bind_some _ _).symm.trans H; rw [hy111]; with_reducible exact H2_) | (have H2_ := (Option.bind_some _ _).symm.trans H; with_reducible exact H2_) | with_reducible exact H | (rw [hy111]; exact H) | exact H
       have Ny111 := Aside0.mk hy111; clear hy111; have H' := Aside0.mk H; clear H; have p110 : 0 ≤ (x17_1 : Int) := ua; have q110 : x17_1 < (l1.length : Int) := ua; obtain ⟨ad110, e110, hx110_0⟩ := Kd.at_int HR1.out x17_1 p110 q110
       cases e110
       replace hx110_0 := uc HB hx110_0; replace p110 := eq_true p110; replace q110 := eq_true q110; have hnb22 := NB109_101.out; have hnc22 := NB101_109.out; have hnb23 := NB109_102.out; have hnc23 := NB102_109.out; obtain ⟨hcz24_0, hcz24_1, hfz24_0, hfz24_1⟩ := bc2 BK109; have p21 : 0 ≤ (x17_1 : Int) := ua; have q21 : (x17_1 : Int) < ((x110001_1.length : Int) : Int) := ua; obtain ⟨go21, co21, eo21, gb21, gl21, cl21, HG21⟩ := Kd.R_form HO_110001.out (by omega); (first | cases eo21 | (injection eo21 with ea_ en_ ec_; (first | subst ea_ | (injection ea_ with ea_; subst ea_)); subst ec_; clear en_)); have GB21 := Aside0.mk gb21; have GG21 := Aside0.mk HG21; clear gb21 gl21 HG21; obtain ⟨ce21, hcl21, hM21, hcc21, hfr21⟩ := Kd.R_elem HO_110001.out z33 (x17_1 : Int) p21 q21; obtain rfl := k33_openM hM21; have hx21_0 : wr.cell? ⟨go21, (x17_1 : Int).toNat * 5, none⟩ = some (.int .i64 ((rd_T33 x110001_1 x17_1).f0)) := hcc21 0 _ rfl; have hx21_1 : wr.cell? ⟨go21, (x17_1 : Int).toNat * 5 + 1, none⟩ = some (.int .i64 ((rd_T33 x110001_1 x17_1).f1)) := hcc21 1 _ rfl; have hx21_2 : wr.cell? ⟨go21, (x17_1 : Int).toNat * 5 + 2, none⟩ = some (.int .i64 ((rd_T33 x110001_1 x17_1).f2)) := hcc21 2 _ rfl; have hx21_3 : wr.cell? ⟨go21, (x17_1 : Int).toNat * 5 + 3, none⟩ = some (.int .i64 ((rd_T33 x110001_1 x17_1).f3)) := hcc21 3 _ rfl; have hx21_4 : wr.cell? ⟨go21, (x17_1 : Int).toNat * 5 + 4, none⟩ = some (.int .i64 ((rd_T33 x110001_1 x17_1).f4)) := hcc21 4 _ rfl; have hf21_0 : wr.frozen? ⟨go21, (x17_1 : Int).toNat * 5, none⟩ = false := hfr21 0; have hf21_1 : wr.frozen? ⟨go21, (x17_1 : Int).toNat * 5 + 1, none⟩ = false := hfr21 1; have hf21_2 : wr.frozen? ⟨go21, (x17_1 : Int).toNat * 5 + 2, none⟩ = false := hfr21 2; have hf21_3 : wr.frozen? ⟨go21, (x17_1 : Int).toNat * 5 + 3, none⟩ = false := hfr21 3; have hf21_4 : wr.frozen? ⟨go21, (x17_1 : Int).toNat * 5 + 4, none⟩ = false := hfr21 4; clear hcl21 hcc21 hfr21 hM21; replace p21 := eq_true p21; replace q21 := eq_true q21; have HX25 := Aside0.mk (show Kd.R k33 33 wr w.heap.size (fun _ => True) (.slice (some ⟨go21, 0, none⟩) x110001_1.length co21) x110001_1 from (ur HO_110001)); obtain ⟨ce25, hcl25, hM25, hcc25, hfr25⟩ := Kd.R_elem HX25.out z33 (x17_1 : Int) (ua) (by have h_ : (x17_1 : Int) < ((x110001_1.length : Int) : Int) := ua; first | exact h_ | (have e_ := (Kd.R_reads' HO_110001.out).1; omega) | simpa using h_); obtain rfl := k33_openM hM25; have HP25 := Kd.R_seg HX25.out (x17_1 : Int) (ua) (by have h_ : (x17_1 : Int) < ((x110001_1.length : Int) : Int) := ua; first | exact h_ | (have e_ := (Kd.R_reads' HO_110001.out).1; omega) | simpa using h_) (seg := [.int .i64 (rd l1 x17_1)]) (j := 2) hcl25 hcc25 (show 3 ≤ 5 from by decide) (x' := (⟨(rd_T33 x110001_1 x17_1).f0, (rd_T33 x110001_1 x17_1).f1, rd l1 x17_1, (rd_T33 x110001_1 x17_1).f3, (rd_T33 x110001_1 x17_1).f4⟩ : S33)) (k33_mkM _ _ _ (⟨(rd_T33 x110001_1 x17_1).f0, (rd_T33 x110001_1 x17_1).f1, rd l1 x17_1, (rd_T33 x110001_1 x17_1).f3, (rd_T33 x110001_1 x17_1).f4⟩ : S33) ) (fun _ hk => hk); have hx25_2 := hcc25 2 _ rfl; (try simp only [show (k33).sz = 5 from rfl, Nat.mul_one, Nat.add_zero] at hx25_2); have hf25_2 := hfr25 2; (try simp only [show (k33).sz = 5 from rfl, Nat.mul_one, Nat.add_zero] at hf25_2); clear hcl25 hcc25 hfr25 hM25; go_wp2_with (first | ((with_reducible refine gate_store (t := 3) (p := 27) rfl ?_); refine store_event (t := 3) (p := 27) (v := ?vo_w26) (w1 := (wr.setCell ⟨go21, (x17_1 : Int).toNat * 5 + 2, none⟩ (.int .i64 (rd l1 x17_1)))) ?hg ?ho ?hn ?hr ?_; (case ho => rfl); (case hg => rfl); (case hn => rfl); (case hr => first | (go_simp; done) | (go_simp; rfl)); intro w26 hw; have hg : wr.grownBy w26 (some go21) := (by rw [hw]; exact HP25.2); have hp_ : Kd.R k33 33 w26 w.heap.size (fun _ => True) (.slice (some ⟨go21, 0, none⟩) x110001_1.length co21) y111 := (by rw [hw, Ny111.out]; exact HP25.1); clear HP25; replace BK101 := bg BK101 hg (Kd.R_ne HO_110001.out BK101.out (by decide)); replace BK102 := bg BK102 hg (Kd.R_ne HO_110001.out BK102.out (by decide)); replace BK109 := bg BK109 hg (Kd.R_ne HO_110001.out BK109.out (by decide)); replace HO_110001 := Aside0.mk (hp_); replace HB := Aside0.mk ((by rw [hw]; exact below_set (HB.out) GB21.out : Below w.heap.size w w26)); clear hg hw hp_)); go_roundg k1
       case measure => have := HK1.out; omega
       case rel => exact ⟨(wrap64 (x17_1 + 1)), (y111), (.slice (some ⟨go21, 0, none⟩) x110001_1.length co21), ue, H', ⟨by have := HK1.out; omega⟩, ⟨ur HO_110001⟩, ⟨ub BK101⟩, ⟨ub BK102⟩, ⟨ub BK109⟩, ⟨uB3 HB GE101.out GE102.out GE109.out⟩⟩
      ·
       rw [if_neg c20] at H; exact absurd H (by simp)
     ·
      rw [if_neg c19] at H; exact absurd H (by simp)
    ·
     rw [if_neg c18] at H; exact absurd H (by simp)
   ·
    rw [if_neg c17] at H; have c17b0 := DL c17; clear c17; simp only [Option.some.injEq, Prod.mk.injEq] at H; obtain ⟨rfl, rfl⟩ := H; have hnb27 := NB109_101.out; have hnc27 := NB101_109.out; have hnb28 := NB109_102.out; have hnc28 := NB102_109.out; obtain ⟨hcz29_0, hcz29_1, hfz29_0, hfz29_1⟩ := bc2 BK109; have hnb30 := NB102_101.out; have hnc30 := NB101_102.out; obtain ⟨hcz31_0, hcz31_1, hfz31_0, hfz31_1⟩ := bc2 BK102; obtain ⟨Ao32, co32, eo32⟩ := Kd.R_slice HO_110001.out; subst eo32; go_wp2; refine bodyPost_ret (results_cell_row rfl _ _ gb102 25 #[.int .i64 a0_0, .slice Ao32 x110001_1.length co32] (0, 0) _ rfl (by (with_reducible repeat first | apply zbn | apply zbd | apply zba); refine pu2 (.int .i64 0) (.slice none 0 0) ?_; exact ub BK102) Try.underlying25 rfl (by kernel_rfl)) rfl ?_; exact ⟨_, by first | rfl | (simp [errW_none, errW_some] <;> rfl) | (simp [*, errW_none, errW_some] <;> rfl), by (with_reducible repeat (first | apply Kd.R_alloc | apply Kd.R_drewN | apply Kd.R_drew)); exact Kd.R_mono (rf2 HO_110001 BK102) (fun _ hk => trivial), uB3 HB GE101.out GE102.out GE109.out⟩

end Go.Proofs.Ytblpdfgplifccaa.P
