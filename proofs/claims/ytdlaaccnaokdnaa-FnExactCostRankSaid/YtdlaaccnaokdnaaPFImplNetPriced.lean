-- several texts of this claim in one
import Derived.Test.YtdlaaccnaokdnaaPx0
import Derived.Test.YtdlaaccnaokdnaaHUp
import Derived.Test.YtdlaaccnaokdnaaHLib
-- written for this claim by a program (wip/gen/myprint.py over the print tool). Not trusted: Lean checks it.
namespace Go.Proofs.Ytdlaaccnaokdnaa.P
open Go.RowKit Go.Proofs.YtdlaaccnaokdnaaV.PrintWords Go.Proofs.YtdlaaccnaokdnaaV.PrintLast
set_option linter.unusedVariables false
set_option linter.unusedSimpArgs false

/-! ### impl_Arc_108: function 108 -/
def impl_Arc_108.f (l0 : List (S61)) : Option ((List (S61))) := some (l0)
set_option maxHeartbeats 8000000 in
set_option maxRecDepth 100000 in
theorem impl_Arc_108.calls (P0_ : Nat → Prop) (u9000_ : Value) (l0 : List (S61)) (r : List (S61)) (w0 w : World) (hB : Below w0.heap.size w0 w) (ho0 : Kd.R k61 61 w w0.heap.size P0_ u9000_ l0) (h : impl_Arc_108.f l0 = some r) :
  Calls Try.prog 108 #[u9000_] w fun e w' => ∃ v0_ : Value, e = .returned (v0_) ∧ Kd.R k61 61 w' w0.heap.size (fun k_ => (P0_ k_ ∨ w.heap.size ≤ k_)) v0_ r ∧ Below w0.heap.size w0 w' ∧ Kept w w' (fun k_ => P0_ k_) := by
 have HO0 := Aside0.mk (show Kd.R k61 61 w w0.heap.size (fun k_ => (P0_ k_ ∨ w.heap.size ≤ k_)) u9000_ l0 from Kd.R_mono ho0 (fun k_ hk => (.inl hk)))
 have HK := Aside0.mk (Kept.refl w (fun k_ => P0_ k_))
 have HW0 := Aside0.mk hB.size
 have HB := Aside0.mk hB
 clear hB
 have H : (some (l0)) = some r := h
 clear h
 obtain ⟨y101, hy101⟩ : ∃ y_ : List (S61), y_ = (l0) := ⟨_, rfl⟩
 replace H : (some y101) = some r := by first | (rw [hy101]; with_reducible exact H) | (have H2_ := (Option.bind_some _ _).symm.trans H; rw [hy101]; with_reducible exact H2_) | (have H2_ := (Option.bind_some _ _).symm.trans H; with_reducible exact H2_) | with_reducible exact H | (rw [hy101]; exact H) | exact H
 have Ny101 := Aside0.mk hy101
 clear hy101
 obtain rfl := Option.some.inj H
 obtain ⟨Ao2, co2, eo2⟩ := Kd.R_slice HO0.out
 subst eo2
 obtain ⟨i03, hi03, _, hsz3, _⟩ := info_parts info61
 have hy3 : y101.length = l0.length := by rw [Ny101.out] <;> exact (Kd.R_reads' HO0.out).1.symm
 have hcut3 : ∀ W : World, (Instr.slice 33 (.slice Ao2 l0.length co2) none (some (.int .i64 (l0.length : Int))) (some (.int .i64 (l0.length : Int)))).run Try.prog W = .ok (.slice Ao2 y101.length y101.length) W := by rw [hy3] <;> exact cut_clip (P := Try.prog) 33 61 .i64 .i64 Try.underlying33 hi03 _ _ _ (Kd.R_reads' HO0.out).2.1
 have hr3 := Kd.R_clip HO0.out
 rw [← hy3] at hr3
 rw [← Ny101.out] at hr3
 clear hy3 hi03 hsz3 HO0
 have HO103 := Aside0.mk hr3
 clear hr3
 go_enter Try.func108, Try.ntmps108
 go_wp2
 go_ret
 exact ⟨_, by first | rfl | (simp [errW_none, errW_some] <;> rfl) | (simp [*, errW_none, errW_some] <;> rfl), by (with_reducible repeat (first | apply Kd.R_alloc | apply Kd.R_drewN | apply Kd.R_drew)); exact HO103.out, uB0 HB, by repeat (first | (with_reducible first | exact HK.out | apply Kept.alloc | apply Kept.drewN | apply Kept.drew) | exact HK.out)⟩

end Go.Proofs.Ytdlaaccnaokdnaa.P
-- written for this claim by a program (wip/gen/myprint.py over the print tool). Not trusted: Lean checks it.
namespace Go.Proofs.Ytdlaaccnaokdnaa.P
open Go.RowKit Go.Proofs.YtdlaaccnaokdnaaV.PrintWords Go.Proofs.YtdlaaccnaokdnaaV.PrintLast
set_option linter.unusedVariables false
set_option linter.unusedSimpArgs false

/-! ### impl_Net_priced: function 72 -/
def impl_Net_priced.l0 : Nat → List Int → Int → Int → Int → List (S61) → Option (Int × (List (S61)))
 | 0, _, _, _, _, _ => none
 | k + 1, x15, x16, x17, x110000, x110001 => if x17 < x16 then (if 0 ≤ x17 then (if x17 < (x15.length : Int) then (if x17 < (x110001.length : Int) then (impl_Net_priced.l0 k x15 x16 (wrap64 (x17 + 1)) x110000 (x110001.set (x17 : Int).toNat (⟨(rd_T61 x110001 x17).f0, (rd_T61 x110001 x17).f1, rd x15 x17, (rd_T61 x110001 x17).f3, (rd_T61 x110001 x17).f4⟩ : S61))) else (none)) else (none)) else (none)) else (some (x110000, x110001))
def impl_Net_priced.f (k : Nat) (a0_0 : Int) (l0_1 : List (S61)) (l1 : List Int) : Option (Int × (List (S61))) := (slices_Clone_Arc.f l0_1).bind fun t103 => ((impl_Arc_108.f t103).bind fun t106 => (impl_Net_priced.l0 k l1 (l1.length : Int) 0 a0_0 t106))
def impl_Net_priced.T1 : Bool × List (List Nat × List Nat) := (true, [([], []), ([0], [0]), ([], []), ([2], [2]), ([3], [3]), ([4, 4], [4]), ([1, 5], [1, 5]), ([], []), ([7, 6, 5, 0, 1, 2, 3, 4, 5, 6, 7], [6, 7])])
def impl_Net_priced.B1 : List Nat := [0, 1, 0, 4, 12, 28, 63, 0, 255]
theorem impl_Net_priced.tab1 : rtab .any (opsOf Try.f72 1) = impl_Net_priced.T1 := by kernel_rfl
theorem impl_Net_priced.bits1 : waitsOk impl_Net_priced.T1.2 impl_Net_priced.B1 = true := by kernel_rfl
set_option maxHeartbeats 8000000 in
set_option maxRecDepth 100000 in
theorem impl_Net_priced.calls (k : Nat) (a0_0 : Int) (A0_1 : Option Addr) (c0_1 : Nat) (l0_1 : List (S61)) (A1 : Option Addr) (c1 : Nat) (l1 : List Int) (r1 : Int) (r2 : List (S61)) (w : World) (hr0_1 : Kd.C k61 w A0_1 l0_1.length l0_1) (hc0_1 : l0_1.length ≤ c0_1) (hr1 : Kd.C (Kd.int .i64) w A1 l1.length l1) (hc1 : l1.length ≤ c1) (h : impl_Net_priced.f k a0_0 l0_1 l1 = some (r1, r2)) :
  Calls Try.prog 72 #[.agg #[.int .i64 a0_0, .slice A0_1 l0_1.length c0_1], .slice A1 l1.length c1] w fun e w' => ∃ v1_ : Value, e = .returned (.agg #[.int .i64 r1, v1_]) ∧ Kd.R k61 61 w' w.heap.size (fun _ => True) v1_ r2 ∧ Below w.heap.size w w' := by
 have hu35 := Try.underlying35
 have ju := Aside0.mk hr0_1
 have jv := Aside0.mk hc0_1
 clear hr0_1 hc0_1
 have HR1 := Aside0.mk hr1
 have HC1 := Aside0.mk hc1
 clear hr1 hc1
 have HB := Aside0.mk (Below.refl w.heap.size w)
 have H : ((slices_Clone_Arc.f l0_1).bind fun jf => ((impl_Arc_108.f jf).bind fun ji => (impl_Net_priced.l0 k l1 (l1.length : Int) 0 a0_0 ji))) = some (r1, r2) := h
 clear h
 replace H := Option.bind_eq_some_iff.mp H
 obtain ⟨jf, A30, H⟩ := H
 replace H : ((impl_Arc_108.f jf).bind fun ji => (impl_Net_priced.l0 k l1 (l1.length : Int) 0 a0_0 ji)) = some (r1, r2) := H
 have A3 := Aside0.mk A30
 clear A30
 replace H := Option.bind_eq_some_iff.mp H
 obtain ⟨ji, A40, H⟩ := H
 replace H : (impl_Net_priced.l0 k l1 (l1.length : Int) 0 a0_0 ji) = some (r1, r2) := H
 have A4 := Aside0.mk A40
 clear A40
 have H' := Aside0.mk H
 clear H
 go_enter Try.func72, Try.ntmps72
 try go_wp2_with (first | ((with_reducible refine gate_dst (N := 2) rfl ?_); refine be (cs := #[.int .i64 a0_0, .slice A0_1 l0_1.length c0_1]) (t := 35) ?_; intro jg hg w5 hbox hb; have j1 := Aside0.mk (hbox); have j0x := gz w hg (uB0 HB); have j8 := gz w hg (uB0 HB); replace HB := Aside0.mk (below_step (uB0 HB) hb); clear hb hbox hg) | ((with_reducible refine gate_dst (N := 4) rfl ?_); refine be (cs := #[.int .i64 0, .slice none 0 0]) (t := 35) ?_; intro jk hg w6 hbox hb; have j3 := Aside0.mk (hbox); have j0y := gz w hg (uB1 HB j8.out); have jb := gz w hg (uB1 HB j8.out); replace HB := Aside0.mk (below_step (uB1 HB j8.out) hb); have jr := gl hg j1; have js := gr hg j1; replace j1 := bb j1 hb; clear hb hbox hg))
 have n0_ := Aside0.mk (blk_drew j1.out)
 have n1_ := Aside0.mk (blk_drew j3.out)
 have n2_ := Aside0.mk (below_drew1 HB.out)
 clear j1
 clear j3
 clear HB
 have j1 := n0_
 have j3 := n1_
 have HB := n2_
 clear n0_ n1_ n2_
 refine start_ (n := 9) (S := fun w' => w'.cell? ⟨jg, 0, none⟩ = some (.int .i64 a0_0) ∧ w'.cell? ⟨jg, 1, none⟩ = some (.slice A0_1 l0_1.length c0_1)) (ds := []) (zt 9 0) (by kernel_rfl) rfl (by kernel_rfl) (b2_ j1) (fun hHeld => ?_); refine with_tabW impl_Net_priced.tab1 impl_Net_priced.bits1 (fun HT_ HW_ => ?_)
 generalize w6.drew = w7 at j1 j3 HB hHeld ⊢
 refine pure_ (i := 0) (N := some 8) (v := ?_) (a' := ?_) (zt 9 1) rfl rfl (any_of HT_.out (by kernel_rfl)) (fun _ _ _ h => h) (Or.inl ⟨by rfl, ?_⟩) ?_ ?_
 rotate_left
 (intro w'; go_simp; with_reducible rfl)
 rotate_left
 (simp only [Act.put, List.setIfInBounds_toArray, List.set_cons_zero, List.set_cons_succ, i64_w, i32_w]; rfl)
 refine pure_ (i := 2) (N := some 10) (v := ?_) (a' := ?_) (zt 9 5) rfl rfl (any_of HT_.out (by kernel_rfl)) (fun _ _ _ h => h) (Or.inl ⟨by rfl, ?_⟩) ?_ ?_
 rotate_left
 (intro w'; go_simp; with_reducible rfl)
 rotate_left
 (simp only [Act.put, List.setIfInBounds_toArray, List.set_cons_zero, List.set_cons_succ, i64_w, i32_w]; rfl)
 refine take_ (i := 1) (N := some 9) (v := ?_) (a' := ?_) (zt 9 7) rfl rfl (take_ofW HT_.out HW_.out (by kernel_rfl)) (fun _ _ _ h => h) (Or.inl ⟨by rfl, ?_⟩) hHeld ?_ ?_
 rotate_left
 (rintro w' ⟨s0, s1⟩; go_simp; with_reducible rfl)
 rotate_left
 (simp only [Act.put, List.setIfInBounds_toArray, List.set_cons_zero, List.set_cons_succ, i64_w, i32_w]; rfl)
 refine take_ (i := 3) (N := some 11) (v := ?_) (a' := ?_) (zt 9 15) rfl rfl (take_ofW HT_.out HW_.out (by kernel_rfl)) (fun _ _ _ h => h) (Or.inl ⟨by rfl, ?_⟩) hHeld ?_ ?_
 rotate_left
 (rintro w' ⟨s0, s1⟩; go_simp; with_reducible rfl)
 rotate_left
 (simp only [Act.put, List.setIfInBounds_toArray, List.set_cons_zero, List.set_cons_succ, i64_w, i32_w]; rfl)
 refine join_ (σ := Value × Value × Nat) 1 (zt 9 255) (fun s_ => [(12, s_.1), (13, s_.2.1), (5, .pointer (some ⟨s_.2.2, 0, none⟩)), (14, .agg #[.int .i64 a0_0, s_.2.1])]) (fun s_ w' => (w'.cell? ⟨jg, 0, none⟩ = some (.int .i64 a0_0) ∧ w'.cell? ⟨jg, 1, none⟩ = some (.slice A0_1 l0_1.length c0_1)) ∧ (Kd.R k61 61 w' w.heap.size (fun _ => True) s_.2.1 ji) ∧ (w'.heap[jg]? = some (.cells #[.int .i64 a0_0, .slice A0_1 l0_1.length c0_1] 35 (0, 0))) ∧ (w'.heap[jk]? = some (.cells #[.int .i64 0, .slice none 0 0] 35 (0, 0))) ∧ (w'.heap[s_.2.2]? = some (.cells #[.int .i64 0, .slice none 0 0] 35 (0, 0))) ∧ (w.heap.size ≤ s_.2.2) ∧ (w.heap.size ≤ s_.2.2) ∧ (jg ≠ s_.2.2) ∧ (s_.2.2 ≠ jg) ∧ (jk ≠ s_.2.2) ∧ (s_.2.2 ≠ jk) ∧ (Below w.heap.size w w')) ?_ ?_
 rotate_left
 ·
  intro hCont; refine two_ (i := 4) (j := 7) (Ni := some 12) (Nj := some 5) (zt 9 31) (zt 9 143) rfl rfl rfl rfl (two_of HT_.out (by kernel_rfl)) (by decide) (by decide) (fun K hK => ?_) (fun K hK => ?_)
  ·
   refine goes_ Try.func109 (by kernel_rfl) rfl #[.slice A0_1 l0_1.length c0_1] (by rfl) rfl rfl ul ?_; with_reducible refine (slices_Clone_Arc.calls _ _ l0_1 jf _ ?side1 ?side2 A3.out).mono ?_
   (case side1 => exact uC ju HB); (case side2 => exact jv.out); rintro e w8 ⟨v104, rfl, ho0, hb⟩; refine ⟨_, rfl, ?_⟩; have jc := Aside0.mk (Kd.R_lower ho0 (below_size (uB2 HB j8.out jb.out))); replace j1 := bb j1 hb; replace j3 := bb j3 hb; replace HB := Aside0.mk (below_step (uB2 HB j8.out jb.out) hb); (try clear hb); (try clear ho0); obtain ⟨Ao9, co9, eo9⟩ := Kd.R_slice jc.out; (subst eo9); refine hK.out _ _ (b2_ j1) (fun hHeld => ?_); clear hK K; refine nz ?_
   refine two_ (i := 5) (j := 7) (Ni := some 13) (Nj := some 5) (zt 9 63) (zt 9 159) rfl rfl rfl rfl (two_of HT_.out (by kernel_rfl)) (by decide) (by decide) (fun K hK => ?_) (fun K hK => ?_)
   ·
    refine goes_ Try.func108 (by kernel_rfl) rfl #[.slice Ao9 jf.length co9] (by rfl) rfl rfl ul ?_; with_reducible refine (impl_Arc_108.calls (fun k_ => some k_ = (.slice Ao9 jf.length co9 : Value).ownBlock) (.slice Ao9 jf.length co9) jf ji w _ ?side1 ?side2 A4.out).mono ?_
    (case side1 => exact uB2 HB j8.out jb.out); (case side2 => exact Kd.R_tight rfl jc.out); rintro e w10 ⟨v107, rfl, ho0, hb, hkp⟩; refine ⟨_, rfl, ?_⟩; replace j1 := Aside0.mk (blk_kept (ub j1) hkp (fun hs_ => (fun e_ => (Kd.R_ne jc.out j1.out (by decide)) e_) hs_)); replace j3 := Aside0.mk (blk_kept (ub j3) hkp (fun hs_ => (fun e_ => (Kd.R_ne jc.out j3.out (by decide)) e_) hs_)); have jh := Aside0.mk (Kd.R_mono (ok' := fun k_ => True) ho0 (fun k_ hk_ => trivial)); replace HB := Aside0.mk (hb); clear jc; (try clear hb); (try clear hkp); (try clear ho0); obtain ⟨j0a, j0b, j0c⟩ := Kd.R_slice jh.out; (subst j0c); refine hK.out _ _ (b2_ j1) (fun hHeld => ?_); clear hK K; refine nz ?_
    refine qz HT_ 6 ?_; refine qo HT_ 7 (fun K hK => ?_); refine box_step ?hg (N := 5) ?hd (cs := #[.int .i64 0, .slice none 0 0]) (t := 35) ?hr ?_; (case hd => rfl); (case hg => rfl); (case hr => first | (go_simp; done) | (go_simp; rfl)); intro jd hg w12 hbox hb; replace jh := Aside0.mk (Kd.R_below (ur jh) hb); have j6 := Aside0.mk (hbox); have jl := gz w hg (uB2 HB j8.out jb.out); have je := gz w hg (uB2 HB j8.out jb.out); replace HB := Aside0.mk (below_step (uB2 HB j8.out jb.out) hb); have j4 := gl hg j1; have j9 := gr hg j1; replace j1 := bb j1 hb; have j7 := gl hg j3; have ja := gr hg j3; replace j3 := bb j3 hb; clear hb hbox hg; refine hK.out _ _ (b2_ j1) (fun hHeld => ?_); clear hK K; refine nz ?_
    exact norm_ (by simp only [putAll, Act.put, List.setIfInBounds_toArray, List.set_cons_zero, List.set_cons_succ]) (hCont (.slice Ao9 jf.length co9, .slice j0a ji.length j0b, jd) _ ⟨hHeld, (ur jh), (ub j1), (ub j3), (ub j6), jl.out, je.out, j4.out, j9.out, j7.out, ja.out, (uB3 HB j8.out jb.out je.out)⟩)
   ·
    refine box_step ?hg (N := 5) ?hd (cs := #[.int .i64 0, .slice none 0 0]) (t := 35) ?hr ?_; (case hd => rfl); (case hg => rfl); (case hr => first | (go_simp; done) | (go_simp; rfl)); intro jd hg w9 hbox hb; replace jc := Aside0.mk (Kd.R_below (ur jc) hb); have j6 := Aside0.mk (hbox); have jl := gz w hg (uB2 HB j8.out jb.out); have je := gz w hg (uB2 HB j8.out jb.out); replace HB := Aside0.mk (below_step (uB2 HB j8.out jb.out) hb); have j4 := gl hg j1; have j9 := gr hg j1; replace j1 := bb j1 hb; have j7 := gl hg j3; have ja := gr hg j3; replace j3 := bb j3 hb; clear hb hbox hg; obtain ⟨jn, jo, jx⟩ := Kd.R_slice jc.out; ((injection jx with f1_ f2_ f3_; have f4_ := f1_.symm; have f5_ := f3_.symm; clear f1_ f2_ f3_; subst f4_; subst f5_)); refine hK.out _ _ (b2_ j1) (fun hHeld => ?_); clear hK K; refine nz ?_
    refine qo HT_ 5 (fun K hK => ?_); refine goes_ Try.func108 (by kernel_rfl) rfl #[.slice jn jf.length jo] (by rfl) rfl rfl ul ?_; with_reducible refine (impl_Arc_108.calls (fun k_ => some k_ = (.slice jn jf.length jo : Value).ownBlock) (.slice jn jf.length jo) jf ji w _ ?side1 ?side2 A4.out).mono ?_
    (case side1 => exact uB3 HB j8.out jb.out je.out); (case side2 => exact Kd.R_tight rfl jc.out); rintro e w11 ⟨v107, rfl, ho0, hb, hkp⟩; refine ⟨_, rfl, ?_⟩; replace j1 := Aside0.mk (blk_kept (ub j1) hkp (fun hs_ => (fun e_ => (Kd.R_ne jc.out j1.out (by decide)) e_) hs_)); replace j3 := Aside0.mk (blk_kept (ub j3) hkp (fun hs_ => (fun e_ => (Kd.R_ne jc.out j3.out (by decide)) e_) hs_)); replace j6 := Aside0.mk (blk_kept (ub j6) hkp (fun hs_ => (fun e_ => (Kd.R_ne jc.out j6.out (by decide)) e_) hs_)); have jh := Aside0.mk (Kd.R_mono (ok' := fun k_ => True) ho0 (fun k_ hk_ => trivial)); replace HB := Aside0.mk (hb); clear jc; (try clear hb); (try clear hkp); (try clear ho0); obtain ⟨jy, jz, jA⟩ := Kd.R_slice jh.out; (subst jA); refine hK.out _ _ (b2_ j1) (fun hHeld => ?_); clear hK K; refine nz ?_
    refine qz HT_ 6 ?_; exact norm_ (by simp only [putAll, Act.put, List.setIfInBounds_toArray, List.set_cons_zero, List.set_cons_succ]) (hCont (.slice jn jf.length jo, .slice jy ji.length jz, jd) _ ⟨hHeld, (ur jh), (ub j1), (ub j3), (ub j6), jl.out, je.out, j4.out, j9.out, j7.out, ja.out, (uB3 HB j8.out jb.out je.out)⟩)
  ·
   refine box_step ?hg (N := 5) ?hd (cs := #[.int .i64 0, .slice none 0 0]) (t := 35) ?hr ?_; (case hd => rfl); (case hg => rfl); (case hr => first | (go_simp; done) | (go_simp; rfl)); intro jd hg w8 hbox hb; have j6 := Aside0.mk (hbox); have jl := gz w hg (uB2 HB j8.out jb.out); have je := gz w hg (uB2 HB j8.out jb.out); replace HB := Aside0.mk (below_step (uB2 HB j8.out jb.out) hb); have j4 := gl hg j1; have j9 := gr hg j1; replace j1 := bb j1 hb; have j7 := gl hg j3; have ja := gr hg j3; replace j3 := bb j3 hb; clear hb hbox hg; refine hK.out _ _ (b2_ j1) (fun hHeld => ?_); clear hK K; refine nz ?_
   refine qo HT_ 4 (fun K hK => ?_); refine goes_ Try.func109 (by kernel_rfl) rfl #[.slice A0_1 l0_1.length c0_1] (by rfl) rfl rfl ul ?_; with_reducible refine (slices_Clone_Arc.calls _ _ l0_1 jf _ ?side1 ?side2 A3.out).mono ?_
   (case side1 => exact uC ju HB); (case side2 => exact jv.out); rintro e w9 ⟨v104, rfl, ho0, hb⟩; refine ⟨_, rfl, ?_⟩; have jc := Aside0.mk (Kd.R_lower ho0 (below_size (uB3 HB j8.out jb.out je.out))); replace j1 := bb j1 hb; replace j3 := bb j3 hb; replace j6 := bb j6 hb; replace HB := Aside0.mk (below_step (uB3 HB j8.out jb.out je.out) hb); (try clear hb); (try clear ho0); obtain ⟨jn, jo, jx⟩ := Kd.R_slice jc.out; (subst jx); refine hK.out _ _ (b2_ j1) (fun hHeld => ?_); clear hK K; refine nz ?_
   refine qo HT_ 5 (fun K hK => ?_); refine goes_ Try.func108 (by kernel_rfl) rfl #[.slice jn jf.length jo] (by rfl) rfl rfl ul ?_; with_reducible refine (impl_Arc_108.calls (fun k_ => some k_ = (.slice jn jf.length jo : Value).ownBlock) (.slice jn jf.length jo) jf ji w _ ?side1 ?side2 A4.out).mono ?_
   (case side1 => exact uB3 HB j8.out jb.out je.out); (case side2 => exact Kd.R_tight rfl jc.out); rintro e w11 ⟨v107, rfl, ho0, hb, hkp⟩; refine ⟨_, rfl, ?_⟩; replace j1 := Aside0.mk (blk_kept (ub j1) hkp (fun hs_ => (fun e_ => (Kd.R_ne jc.out j1.out (by decide)) e_) hs_)); replace j3 := Aside0.mk (blk_kept (ub j3) hkp (fun hs_ => (fun e_ => (Kd.R_ne jc.out j3.out (by decide)) e_) hs_)); replace j6 := Aside0.mk (blk_kept (ub j6) hkp (fun hs_ => (fun e_ => (Kd.R_ne jc.out j6.out (by decide)) e_) hs_)); have jh := Aside0.mk (Kd.R_mono (ok' := fun k_ => True) ho0 (fun k_ hk_ => trivial)); replace HB := Aside0.mk (hb); clear jc; (try clear hb); (try clear hkp); (try clear ho0); obtain ⟨jy, jz, jA⟩ := Kd.R_slice jh.out; (subst jA); refine hK.out _ _ (b2_ j1) (fun hHeld => ?_); clear hK K; refine nz ?_
   refine qz HT_ 6 ?_; exact norm_ (by simp only [putAll, Act.put, List.setIfInBounds_toArray, List.set_cons_zero, List.set_cons_succ]) (hCont (.slice jn jf.length jo, .slice jy ji.length jz, jd) _ ⟨hHeld, (ur jh), (ub j1), (ub j3), (ub j6), jl.out, je.out, j4.out, j9.out, j7.out, ja.out, (uB3 HB j8.out jb.out je.out)⟩)
 rintro ⟨v104, v107, jd⟩ w13 ⟨hS_, h0_, h1_, h2_, h3_, h4_, h5_, h6_, h7_, h8_, h9_, h10_⟩
 have n0_ : Aside0 (Kd.R k61 61 w13 w.heap.size (fun _ => True) v107 ji) := ⟨h0_⟩
 have n1_ : Aside0 (w13.heap[jg]? = some (.cells #[.int .i64 a0_0, .slice A0_1 l0_1.length c0_1] 35 (0, 0))) := ⟨h1_⟩
 have n2_ : Aside0 (w13.heap[jk]? = some (.cells #[.int .i64 0, .slice none 0 0] 35 (0, 0))) := ⟨h2_⟩
 have n3_ : Aside0 (w13.heap[jd]? = some (.cells #[.int .i64 0, .slice none 0 0] 35 (0, 0))) := ⟨h3_⟩
 have n4_ : Aside0 (w.heap.size ≤ jd) := ⟨h4_⟩
 have n5_ : Aside0 (w.heap.size ≤ jd) := ⟨h5_⟩
 have n6_ : Aside0 (jg ≠ jd) := ⟨h6_⟩
 have n7_ : Aside0 (jd ≠ jg) := ⟨h7_⟩
 have n8_ : Aside0 (jk ≠ jd) := ⟨h8_⟩
 have n9_ : Aside0 (jd ≠ jk) := ⟨h9_⟩
 have n10_ : Aside0 (Below w.heap.size w w13) := ⟨h10_⟩
 clear j1
 clear j3
 clear HB
 clear h0_ h1_ h2_ h3_ h4_ h5_ h6_ h7_ h8_ h9_ h10_
 have jh := n0_
 have j1 := n1_
 have j3 := n2_
 have j6 := n3_
 have jl := n4_
 have je := n5_
 have j4 := n6_
 have j9 := n7_
 have j7 := n8_
 have ja := n9_
 have HB := n10_
 clear n0_ n1_ n2_ n3_ n4_ n5_ n6_ n7_ n8_ n9_ n10_
 have hHeld : w13.cell? ⟨jg, 0, none⟩ = some (.int .i64 a0_0) ∧ w13.cell? ⟨jg, 1, none⟩ = some (.slice A0_1 l0_1.length c0_1) := hS_
 obtain ⟨j0d, j0e, j0f⟩ := Kd.R_slice jh.out
 (subst j0f)
 refine norm_ (a' := ?_) ?_ ?_
 rotate_left
 ·
  simp only [putAll, Act.put, List.setIfInBounds_toArray, List.set_cons_zero, List.set_cons_succ]; rfl
 refine qo HT_ 8 (fun K hK => ?_)
 have j0P : w13.cell? ⟨jd, 0, none⟩ = some (.int .i64 0) := (blk_cell j6.out 0).trans rfl
 have j0z := blk_frozen j6.out 0
 have jQ := j4.out
 have jR := j7.out
 have jS := j9.out
 have jT := ja.out
 have j0Q : w13.cell? ⟨jd, 1, none⟩ = some (.slice none 0 0) := (blk_cell j6.out 1).trans rfl
 have j0A := blk_frozen j6.out 1
 have jU := j4.out
 have jV := j7.out
 have jW := j9.out
 have jX := ja.out
 refine skip_ (w1 := ?_) (by rfl) rfl ?_ ?_
 rotate_left
 ·
  go_simp; rfl
 refine hK.out _ _ ⟨((cell_far (p := ⟨jd, _, none⟩) j4.out _).trans (((cell_far (p := ⟨jd, _, none⟩) j4.out _).trans (hHeld.1)))), ((cell_far (p := ⟨jd, _, none⟩) j4.out _).trans (((cell_far (p := ⟨jd, _, none⟩) j4.out _).trans (hHeld.2))))⟩ (fun hHeld => ?_)
 clear hK K
 refine done_ (done_of HT_.out (by kernel_rfl)) ?_
 try go_wp2
 go_loopg [17] k (fun kq v17 w' => ∃ (j2 : Int) (j0 : List (S61)) (u110001 : Value), v17 = .int .i64 j2 ∧ Aside0 (impl_Net_priced.l0 kq l1 (l1.length : Int) j2 a0_0 j0 = some (r1, r2)) ∧ Aside0 (kq ≤ k) ∧ Aside0 (Kd.R k61 61 w' w.heap.size (fun _ => True) u110001 j0) ∧ Aside0 (w'.heap[jg]? = some (.cells #[.int .i64 a0_0, (.slice A0_1 l0_1.length c0_1)] 35 (0, 0))) ∧ Aside0 (w'.heap[jk]? = some (.cells #[.int .i64 0, (.slice none 0 0)] 35 (0, 0))) ∧ Aside0 (w'.heap[jd]? = some (.cells #[.int .i64 a0_0, u110001] 35 (0, 0))) ∧ Aside0 (Below w.heap.size w w'))
 case atStart => exact ⟨(0), (ji), (.slice j0d ji.length j0e), ue, H', ⟨Nat.le_refl _⟩, ⟨by (with_reducible repeat (first | apply Kd.R_alloc | apply Kd.R_drewN | apply Kd.R_drew)); exact Kd.R_mono (rf2 jh j6) (fun _ hk => trivial)⟩, ⟨by (with_reducible repeat first | apply zbn | apply zbd | apply zba); refine fa2 ?_ j4; exact ub j1⟩, ⟨by (with_reducible repeat first | apply zbn | apply zbd | apply zba); refine fa2 ?_ j7; exact ub j3⟩, ⟨by (with_reducible repeat first | apply zbn | apply zbd | apply zba); refine pu2 (.int .i64 0) (.slice none 0 0) ?_; exact ub j6⟩, ⟨uB3 HB j8.out jb.out je.out⟩⟩
 case round =>
  clear H'
  obtain ⟨j2, j0, u110001, rfl, HA, HK1, j5, j1, j3, j6, HB⟩ := hrel
  cases gk with
  | zero => exact absurd HA.out (by simp [impl_Net_priced.l0])
  | succ k1 =>
   have H := HA.out; clear HA; simp only [impl_Net_priced.l0] at H; by_cases c17 : j2 < (l1.length : Int)
   ·
    rw [if_pos c17] at H; have jI := dl c17; clear c17; by_cases c18 : 0 ≤ j2
    ·
     rw [if_pos c18] at H; have j0B := de c18; clear c18; by_cases c19 : j2 < (l1.length : Int)
     ·
      rw [if_pos c19] at H; have j0C := dl c19; clear c19; by_cases c20 : j2 < (j0.length : Int)
      ·
       rw [if_pos c20] at H; have j0D := dl c20; clear c20; obtain ⟨jB, jp⟩ : ∃ y_ : List (S61), y_ = (j0.set (j2 : Int).toNat (⟨(rd_T61 j0 j2).f0, (rd_T61 j0 j2).f1, rd l1 j2, (rd_T61 j0 j2).f3, (rd_T61 j0 j2).f4⟩ : S61)) := ⟨_, rfl⟩
       replace H : (impl_Net_priced.l0 k1 l1 (l1.length : Int) (wrap64 (j2 + 1)) a0_0 jB) = some (r1, r2) := by first | (rw [jp]; with_reducible exact H) | (have H2_ := (Option.bind_some _ _).symm.trans H; rw [jp]; with_reducible exact H2_) | (have H2_ := (Option.bind_some _ _).symm.trans H; with_reducible exact H2_) | with_reducible exact H | (rw [jp]; exact H) | exact H
       have jJ := Aside0.mk jp; clear jp; have H' := Aside0.mk H; clear H; have jC : 0 ≤ (j2 : Int) := ua; have jD : j2 < (l1.length : Int) := ua; obtain ⟨j0E, j0g, jq⟩ := Kd.at_int HR1.out j2 jC jD
       cases j0g
       replace jq := uc HB jq; replace jC := eq_true jC; replace jD := eq_true jD; have j0F := j9.out; have j0G := j4.out; have j0H := ja.out; have j0I := j7.out; obtain ⟨jY, jZ, j00, j01⟩ := bc2 j6; have p21 : 0 ≤ (j2 : Int) := ua; have q21 : (j2 : Int) < ((j0.length : Int) : Int) := ua; obtain ⟨jj, jE, j0h, jK, j0i, j0R, jL⟩ := Kd.R_form j5.out (by omega); (cases j0h); have j0j := Aside0.mk jK; have j0S := Aside0.mk jL; clear jK j0i jL; obtain ⟨j0T, jM, jN, jm, hfr21⟩ := Kd.R_elem j5.out z61 (j2 : Int) p21 q21; obtain rfl := k61_openM jN; have j0k : wr.cell? ⟨jj, (j2 : Int).toNat * 5, none⟩ = some (.int .i64 ((rd_T61 j0 j2).f0)) := jm 0 _ rfl; have j0l : wr.cell? ⟨jj, (j2 : Int).toNat * 5 + 1, none⟩ = some (.int .i64 ((rd_T61 j0 j2).f1)) := jm 1 _ rfl; have j0m : wr.cell? ⟨jj, (j2 : Int).toNat * 5 + 2, none⟩ = some (.int .i64 ((rd_T61 j0 j2).f2)) := jm 2 _ rfl; have j0n : wr.cell? ⟨jj, (j2 : Int).toNat * 5 + 3, none⟩ = some (.int .i64 ((rd_T61 j0 j2).f3)) := jm 3 _ rfl; have j0o : wr.cell? ⟨jj, (j2 : Int).toNat * 5 + 4, none⟩ = some (.int .i64 ((rd_T61 j0 j2).f4)) := jm 4 _ rfl; have j0p : wr.frozen? ⟨jj, (j2 : Int).toNat * 5, none⟩ = false := hfr21 0; have j0q : wr.frozen? ⟨jj, (j2 : Int).toNat * 5 + 1, none⟩ = false := hfr21 1; have j0r : wr.frozen? ⟨jj, (j2 : Int).toNat * 5 + 2, none⟩ = false := hfr21 2; have j0s : wr.frozen? ⟨jj, (j2 : Int).toNat * 5 + 3, none⟩ = false := hfr21 3; have j0t : wr.frozen? ⟨jj, (j2 : Int).toNat * 5 + 4, none⟩ = false := hfr21 4; clear jM jm hfr21 jN; replace p21 := eq_true p21; replace q21 := eq_true q21; have jO := Aside0.mk (show Kd.R k61 61 wr w.heap.size (fun _ => True) (.slice (some ⟨jj, 0, none⟩) j0.length jE) j0 from (ur j5)); obtain ⟨j0U, jw, jP, jt, hfr25⟩ := Kd.R_elem jO.out z61 (j2 : Int) (ua) (by have h_ : (j2 : Int) < ((j0.length : Int) : Int) := ua; first | exact h_ | (have e_ := (Kd.R_reads' j5.out).1; omega) | simpa using h_); obtain rfl := k61_openM jP; have jF := Kd.R_seg jO.out (j2 : Int) (ua) (by have h_ : (j2 : Int) < ((j0.length : Int) : Int) := ua; first | exact h_ | (have e_ := (Kd.R_reads' j5.out).1; omega) | simpa using h_) (seg := [.int .i64 (rd l1 j2)]) (j := 2) jw jt (show 3 ≤ 5 from by decide) (x' := (⟨(rd_T61 j0 j2).f0, (rd_T61 j0 j2).f1, rd l1 j2, (rd_T61 j0 j2).f3, (rd_T61 j0 j2).f4⟩ : S61)) (k61_mkM _ _ _ (⟨(rd_T61 j0 j2).f0, (rd_T61 j0 j2).f1, rd l1 j2, (rd_T61 j0 j2).f3, (rd_T61 j0 j2).f4⟩ : S61) ) (fun _ hk => hk); have jG := jt 2 _ rfl; (try simp only [show (k61).sz = 5 from rfl, Nat.mul_one, Nat.add_zero] at jG); have jH := hfr25 2; (try simp only [show (k61).sz = 5 from rfl, Nat.mul_one, Nat.add_zero] at jH); clear jw jt hfr25 jP; go_wp2_with (((with_reducible refine gate_store (t := 3) (p := 27) rfl ?_); refine store_event (t := 3) (p := 27) (v := ?vo_w26) (w1 := (wr.setCell ⟨jj, (j2 : Int).toNat * 5 + 2, none⟩ (.int .i64 (rd l1 j2)))) ?hg ?ho ?hn ?hr ?_; (case ho => rfl); (case hg => rfl); (case hn => rfl); (case hr => first | (go_simp; done) | (go_simp; rfl)); intro w26 hw; have hg : wr.grownBy w26 (some jj) := (by rw [hw]; exact jF.2); have hp_ : Kd.R k61 61 w26 w.heap.size (fun _ => True) (.slice (some ⟨jj, 0, none⟩) j0.length jE) jB := (by rw [hw, jJ.out]; exact jF.1); clear jF; replace j1 := bg j1 hg (Kd.R_ne j5.out j1.out (by decide)); replace j3 := bg j3 hg (Kd.R_ne j5.out j3.out (by decide)); replace j6 := bg j6 hg (Kd.R_ne j5.out j6.out (by decide)); replace j5 := Aside0.mk (hp_); replace HB := Aside0.mk ((by rw [hw]; exact below_set (HB.out) j0j.out : Below w.heap.size w w26)); clear hg hw hp_)); go_roundg k1
       case measure => have := HK1.out; omega
       case rel => exact ⟨(wrap64 (j2 + 1)), (jB), (.slice (some ⟨jj, 0, none⟩) j0.length jE), ue, H', ⟨by have := HK1.out; omega⟩, ⟨ur j5⟩, ⟨ub j1⟩, ⟨ub j3⟩, ⟨ub j6⟩, ⟨uB3 HB j8.out jb.out je.out⟩⟩
      ·
       rw [if_neg c20] at H; exact absurd H (by simp)
     ·
      rw [if_neg c19] at H; exact absurd H (by simp)
    ·
     rw [if_neg c18] at H; exact absurd H (by simp)
   ·
    rw [if_neg c17] at H; have jI := DL c17; clear c17; simp only [Option.some.injEq, Prod.mk.injEq] at H; obtain ⟨rfl, rfl⟩ := H; have j0J := j9.out; have j0K := j4.out; have j0L := ja.out; have j0M := j7.out; obtain ⟨j02, j03, j04, j05⟩ := bc2 j6; have j0N := js.out; have j0O := jr.out; obtain ⟨j06, j07, j08, j09⟩ := bc2 j3; obtain ⟨j0u, j0v, j0w⟩ := Kd.R_slice j5.out; subst j0w; go_wp2; refine bodyPost_ret (results_cell_row rfl _ _ jk 35 #[.int .i64 a0_0, .slice j0u j0.length j0v] (0, 0) _ rfl (by (with_reducible repeat first | apply zbn | apply zbd | apply zba); refine pu2 (.int .i64 0) (.slice none 0 0) ?_; exact ub j3) Try.underlying35 rfl (by kernel_rfl)) rfl ?_; exact ⟨_, by first | rfl | (simp [errW_none, errW_some] <;> rfl) | (simp [*, errW_none, errW_some] <;> rfl), by (with_reducible repeat (first | apply Kd.R_alloc | apply Kd.R_drewN | apply Kd.R_drew)); exact Kd.R_mono (rf2 j5 j3) (fun _ hk => trivial), uB3 HB j8.out jb.out je.out⟩

end Go.Proofs.Ytdlaaccnaokdnaa.P
