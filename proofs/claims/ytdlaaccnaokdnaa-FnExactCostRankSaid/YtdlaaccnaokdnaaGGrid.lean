-- written for this claim by a program (wip/gen/myprint.py over the print tool). Not trusted: Lean checks it.
import Derived.Test.YtdlaaccnaokdnaaPx0
import Derived.Test.YtdlaaccnaokdnaaHUp
import Derived.Test.YtdlaaccnaokdnaaHRepeat
namespace Go.Proofs.Ytdlaaccnaokdnaa.P
open Go.RowKit Go.Proofs.YtdlaaccnaokdnaaV.PrintWords Go.Proofs.YtdlaaccnaokdnaaV.PrintLast
set_option linter.unusedVariables false
set_option linter.unusedSimpArgs false

/-! ### slices_Clip_int_int: function 63 -/
def slices_Clip_int_int.f (l0 : List Int) : Option (List Int) := some (l0)
set_option maxHeartbeats 8000000 in
set_option maxRecDepth 100000 in
theorem slices_Clip_int_int.calls (P0_ : Nat → Prop) (u9000_ : Value) (l0 : List Int) (r : List Int) (w0 w : World) (hB : Below w0.heap.size w0 w) (ho0 : Kd.R (Kd.int .i64) 3 w w0.heap.size P0_ u9000_ l0) (h : slices_Clip_int_int.f l0 = some r) :
  Calls Try.prog 63 #[u9000_] w fun e w' => ∃ v0_ : Value, e = .returned (v0_) ∧ Kd.R (Kd.int .i64) 3 w' w0.heap.size (fun k_ => (P0_ k_ ∨ w.heap.size ≤ k_)) v0_ r ∧ Below w0.heap.size w0 w' ∧ Kept w w' (fun k_ => P0_ k_) := by
 have HO0 := Aside0.mk (show Kd.R (Kd.int .i64) 3 w w0.heap.size (fun k_ => (P0_ k_ ∨ w.heap.size ≤ k_)) u9000_ l0 from Kd.R_mono ho0 (fun k_ hk => (.inl hk)))
 have HK := Aside0.mk (Kept.refl w (fun k_ => P0_ k_))
 have HW0 := Aside0.mk hB.size
 have HB := Aside0.mk hB
 clear hB
 have H : (some (l0)) = some r := h
 clear h
 obtain ⟨y101, hy101⟩ : ∃ y_ : List Int, y_ = (l0) := ⟨_, rfl⟩
 replace H : (some y101) = some r := by first | (rw [hy101]; with_reducible exact H) | (have H2_ := (Option.bind_some _ _).symm.trans H; rw [hy101]; with_reducible exact H2_) | (have H2_ := (Option.bind_some _ _).symm.trans H; with_reducible exact H2_) | with_reducible exact H | (rw [hy101]; exact H) | exact H
 have Ny101 := Aside0.mk hy101
 clear hy101
 obtain rfl := Option.some.inj H
 obtain ⟨Ao2, co2, eo2⟩ := Kd.R_slice HO0.out
 subst eo2
 obtain ⟨i03, hi03, _, hsz3, _⟩ := info_parts info3
 have hy3 : y101.length = l0.length := by rw [Ny101.out] <;> exact (Kd.R_reads' HO0.out).1.symm
 have hcut3 : ∀ W : World, (Instr.slice 25 (.slice Ao2 l0.length co2) none (some (.int .i64 (l0.length : Int))) (some (.int .i64 (l0.length : Int)))).run Try.prog W = .ok (.slice Ao2 y101.length y101.length) W := by rw [hy3] <;> exact cut_clip (P := Try.prog) 25 3 .i64 .i64 Try.underlying25 hi03 _ _ _ (Kd.R_reads' HO0.out).2.1
 have hr3 := Kd.R_clip HO0.out
 rw [← hy3] at hr3
 rw [← Ny101.out] at hr3
 clear hy3 hi03 hsz3 HO0
 have HO103 := Aside0.mk hr3
 clear hr3
 go_enter Try.func63, Try.ntmps63
 go_wp2
 go_ret
 exact ⟨_, by first | rfl | (simp [errW_none, errW_some] <;> rfl) | (simp [*, errW_none, errW_some] <;> rfl), by (with_reducible repeat (first | apply Kd.R_alloc | apply Kd.R_drewN | apply Kd.R_drew)); exact HO103.out, uB0 HB, by repeat ((with_reducible first | exact HK.out | apply Kept.alloc | apply Kept.drewN | apply Kept.drew))⟩

end Go.Proofs.Ytdlaaccnaokdnaa.P
namespace Go.Proofs.Ytdlaaccnaokdnaa.P
open Go.RowKit Go.Proofs.YtdlaaccnaokdnaaV.PrintWords Go.Proofs.YtdlaaccnaokdnaaV.PrintLast
set_option linter.unusedVariables false
set_option linter.unusedSimpArgs false

/-! ### impl_grid: function 107 -/
def impl_grid.l0 : Nat → Int → Int → List (List Int) → Int → Int → Option ((List (List Int)))
 | 0, _, _, _, _, _ => none
 | k + 1, x0, x1, x5, x8, x9 => if x9 < x8 then ((slices_Repeat_int.f (([x1] : List Int)) x0).bind fun t107 => ((slices_Clip_int_int.f t107).bind fun t110 => (if x5.length < 5864062014805 then (impl_grid.l0 k x0 x1 (x5 ++ [t110]) x8 (wrap64 (x9 + 1))) else (none)))) else (some x5)
def impl_grid.f (k : Nat) (a0 : Int) (a1 : Int) : Option ((List (List Int))) := if 0 ≤ a0 then (if (a0 : Int).toNat ≤ 11728124029610 then (impl_grid.l0 k a0 a1 (([] : List (List Int))) a0 0) else (none)) else (none)
set_option maxHeartbeats 8000000 in
set_option maxRecDepth 100000 in
theorem impl_grid.calls (k : Nat) (a0 : Int) (a1 : Int) (r : List (List Int)) (w : World) (h : impl_grid.f k a0 a1 = some r) :
  Calls Try.prog 107 #[.int .i64 a0, .int .i64 a1] w fun e w' => ∃ v0_ : Value, e = .returned (v0_) ∧ Kd.S (Kd.slice 3 (Kd.int .i64)) 25 w' w.heap.size (fun _ => True) v0_ r ∧ Below w.heap.size w w' := by
 have HB := Aside0.mk (Below.refl w.heap.size w)
 have H : (if 0 ≤ a0 then (if (a0 : Int).toNat ≤ 11728124029610 then (impl_grid.l0 k a0 a1 (([] : List (List Int))) a0 0) else (none)) else (none)) = some r := h
 clear h
 by_cases c3 : 0 ≤ a0
 ·
  rw [if_pos c3] at H; have jq := eq_true c3; have jr := de c3; clear c3; by_cases c4 : (a0 : Int).toNat ≤ 11728124029610
  ·
   rw [if_pos c4] at H; have js := eq_true c4; have jt := de c4; clear c4; obtain ⟨jg, j5⟩ : ∃ y_ : List (List Int), y_ = (([] : List (List Int))) := ⟨_, rfl⟩
   replace H : (impl_grid.l0 k a0 a1 jg a0 0) = some r := by first | (rw [j5]; with_reducible exact H) | (have H2_ := (Option.bind_some _ _).symm.trans H; rw [j5]; with_reducible exact H2_) | (have H2_ := (Option.bind_some _ _).symm.trans H; with_reducible exact H2_) | with_reducible exact H | (rw [j5]; exact H) | exact H
   have jh := Aside0.mk j5; clear j5; have H' := Aside0.mk H; clear H; go_enter Try.func107, Try.ntmps107; go_wp2_with (((with_reducible refine gate_dst (N := 7) rfl ?_); refine Kd.S_room (Kd.slice 3 (Kd.int .i64)) _ 25 rfl (N := 7) rfl 26 _ _ rfl a0 rfl rfl Try.underlying26 (.slice none 0 0) 24 info25 rfl (by omega) (ok := fun _ => True) trivial (ua) (Nat.le_trans (Nat.mul_le_mul_right _ (ua : a0.toNat ≤ 11728124029610)) (by omega)) (Below.refl _ _) (Nat.le_refl _) ?_; intro v102 w5 ho6 hb hg_ hnew_; clear hg_ hnew_; (rw [← jh.out] at ho6); have ji := Aside0.mk (Kd.S_lower ho6 (below_size (uB0 HB))); replace HB := Aside0.mk (below_step (uB0 HB) hb); clear hb ho6)); go_loopg [5, 9] k (fun kq v5 v9 w' => ∃ (j1 : List (List Int)) (j4 : Int), v9 = .int .i64 j4 ∧ Aside0 (impl_grid.l0 kq a0 a1 j1 a0 j4 = some r) ∧ Aside0 (kq ≤ k) ∧ Aside0 (Kd.S (Kd.slice 3 (Kd.int .i64)) 25 w' w.heap.size (fun _ => True) v5 j1) ∧ Aside0 (Below w.heap.size w w'))
   case atStart => exact ⟨(jg), (0), ue, H', ⟨Nat.le_refl _⟩, ⟨by (with_reducible repeat (first | apply Kd.S_alloc | apply Kd.S_drewN | apply Kd.S_drew)); exact ji.out⟩, ⟨uB0 HB⟩⟩
   case round =>
    clear H'
    clear jq jr js jt
    obtain ⟨j1, j4, rfl, HA, HK1, j2, HB⟩ := hrel
    cases gk with
    | zero => exact absurd HA.out (by simp [impl_grid.l0])
    | succ k1 =>
     have H := HA.out; clear HA; simp only [impl_grid.l0] at H; by_cases c7 : j4 < a0
     ·
      rw [if_pos c7] at H; have ju := dl c7; clear c7; obtain ⟨j6, j7⟩ : ∃ y_ : List Int, y_ = (([a1] : List Int)) := ⟨_, rfl⟩
      replace H : ((slices_Repeat_int.f j6 a0).bind fun j8 => ((slices_Clip_int_int.f j8).bind fun j3 => (if j1.length < 5864062014805 then (impl_grid.l0 k1 a0 a1 (j1 ++ [j3]) a0 (wrap64 (j4 + 1))) else (none)))) = some r := by first | (rw [j7]; with_reducible exact H) | (have H2_ := (Option.bind_some _ _).symm.trans H; rw [j7]; with_reducible exact H2_) | (have H2_ := (Option.bind_some _ _).symm.trans H; with_reducible exact H2_) | with_reducible exact H | (rw [j7]; exact H) | exact H
      have jj := Aside0.mk j7; clear j7; replace H := Option.bind_eq_some_iff.mp H; obtain ⟨j8, A80, H⟩ := H; replace H : ((slices_Clip_int_int.f j8).bind fun j3 => (if j1.length < 5864062014805 then (impl_grid.l0 k1 a0 a1 (j1 ++ [j3]) a0 (wrap64 (j4 + 1))) else (none))) = some r := H; have A8 := Aside0.mk A80; clear A80; replace H := Option.bind_eq_some_iff.mp H; obtain ⟨j3, A90, H⟩ := H; replace H : (if j1.length < 5864062014805 then (impl_grid.l0 k1 a0 a1 (j1 ++ [j3]) a0 (wrap64 (j4 + 1))) else (none)) = some r := H; have A9 := Aside0.mk A90; clear A90; by_cases c10 : j1.length < 5864062014805
      ·
       rw [if_pos c10] at H; have jk := Aside0.mk c10; clear c10; obtain ⟨jl, j9⟩ : ∃ y_ : List (List Int), y_ = (j1 ++ [j3]) := ⟨_, rfl⟩
       replace H : (impl_grid.l0 k1 a0 a1 jl a0 (wrap64 (j4 + 1))) = some r := by first | (rw [j9]; with_reducible exact H) | (have H2_ := (Option.bind_some _ _).symm.trans H; rw [j9]; with_reducible exact H2_) | (have H2_ := (Option.bind_some _ _).symm.trans H; with_reducible exact H2_) | with_reducible exact H | (rw [j9]; exact H) | exact H
       have jm := Aside0.mk j9; clear j9; have H' := Aside0.mk H; clear H; go_wp2_with (first | ((with_reducible refine gate_dst (N := 13) rfl ?_); refine Kd.R_lit (Kd.int .i64) _ 3 ?hg (N := 13) ?hd (xs := ([a1] : List Int)) (inner := [.int .i64 a1]) (ok := fun _ => True) (okp := fun _ => True) ?hr ?hp (fun _ hk => hk) trivial (Below.refl _ _) (Nat.le_refl _) (by simp) ?_; (case hd => rfl); (case hg => rfl); (case hr => first | (go_simp; done) | (go_simp; rfl)); (case hp => exact (Reps.one (show Kd.M (Kd.int .i64) _ _ _ a1 [.int .i64 a1] from rfl) (Reps.none _ _))); intro v105 w11 ho12 hb hg_ hnew_; clear hg_ hnew_; (rw [← jj.out] at ho12); replace j2 := Aside0.mk (Kd.S_elder' (by (with_reducible repeat (first | apply Kd.S_alloc | apply Kd.S_drewN | apply Kd.S_drew)); exact j2.out) (Kd.R_base ho12) hb); have j0 := Aside0.mk (Kd.R_lower ho12 (below_size (uB0 HB))); replace HB := Aside0.mk (below_step (uB0 HB) hb); clear hb ho12; obtain ⟨jb, jc, jv⟩ := Kd.R_slice j0.out; subst jv) | ((with_reducible refine gate_callee (f := 97) rfl ?_); refine goesL_ (some 15) rfl rfl Try.func97 (by kernel_rfl) rfl #[.slice jb j6.length jc, .int .i64 a0] rfl ul ?_; (with_reducible refine (slices_Repeat_int.calls _ _ j6 a0 j8 _ ?side1 ?side2 A8.out).mono ?_); (case side1 => exact uD (Kd.R_reads' j0.out).2.2); (case side2 => exact (Kd.R_reads' j0.out).2.1); rintro e w14 ⟨v108, rfl, ho0, hb⟩; refine ⟨_, rfl, ?_⟩; replace j2 := Aside0.mk (Kd.S_elder' (by (with_reducible repeat (first | apply Kd.S_alloc | apply Kd.S_drewN | apply Kd.S_drew)); exact j2.out) (Kd.R_base ho0) hb); have jd := Aside0.mk (Kd.R_lower (Kd.R_new' ho0 (Kd.R_lt (ur j0))) (below_size (uB0 HB))); replace j0 := Aside0.mk (Kd.R_elder' (ur j0) (Kd.R_base ho0) hb); replace HB := Aside0.mk (below_step (uB0 HB) hb); (try clear hb); (try clear ho0); obtain ⟨je, jf, jw⟩ := Kd.R_slice jd.out; subst jw) | ((with_reducible refine gate_callee (f := 63) rfl ?_); refine goesL_ (some 16) rfl rfl Try.func63 (by kernel_rfl) rfl #[.slice je j8.length jf] rfl ul ?_; (with_reducible refine (slices_Clip_int_int.calls (fun k_ => some k_ = (.slice je j8.length jf : Value).ownBlock) (.slice je j8.length jf) j8 j3 w _ ?side1 ?side2 A9.out).mono ?_); (case side1 => exact uB0 HB); (case side2 => exact Kd.R_tight rfl jd.out); rintro e w16 ⟨v111, rfl, ho0, hb, hkp⟩; refine ⟨_, rfl, ?_⟩; replace j2 := Aside0.mk (Kd.S_mono (ok' := fun k_ => some k_ ≠ (.slice jb j6.length jc : Value).ownBlock ∧ some k_ ≠ (v111 : Value).ownBlock) (Kd.S_keptB (j2.out) hkp (fun k_ hk_ hs_ => (hk_.2) hs_)) (fun k_ hk_ => ⟨hk_.1.1.2, fun e_ => Or.elim (ho0.1 k_ e_.symm) (fun hs_ => hk_.2.1 hs_) (fun hn_ => Nat.not_le.2 hk_.2.2 hn_)⟩)); have ja := Aside0.mk (Kd.R_mono (ok' := fun k_ => some k_ ≠ (.slice jb j6.length jc : Value).ownBlock) ho0 (fun k_ hk_ => Or.elim hk_ (fun hs_ => fun e_ => (((j0.out).1 k_ e_.symm).2) hs_) (fun hn_ => (Kd.fresh' (Kd.R_lt (ur j0)) k_ hn_)))); replace j0 := Aside0.mk (Kd.R_mono (ok' := fun k_ => some k_ ≠ (v111 : Value).ownBlock) (Kd.R_keptB (j0.out) hkp (fun k_ hk_ hs_ => (hk_.2) hs_)) (fun k_ hk_ => fun e_ => Or.elim (ho0.1 k_ e_.symm) (fun hs_ => hk_.2.1 hs_) (fun hn_ => Nat.not_le.2 hk_.2.2 hn_))); replace HB := Aside0.mk (hb); clear jd; (try clear hb); (try clear hkp); (try clear ho0); obtain ⟨jn, jo, jx⟩ := Kd.R_slice ja.out; subst jx) | ((with_reducible refine gate_builtin (b := .append) (xs := #[.tmp 11, .tmp 17]) rfl ?_); at_builtin; refine Kd.S_append (Kd.slice 3 (Kd.int .i64)) (w0 := w) w.heap.size rfl (.tmp 11) (.tmp 17) 26 25 (.slice none 0 0) 24 rfl Try.underlying26 info25 rfl (by decide) (by omega) u5 j1 j3 [.slice jn j3.length jo] (fun k_ => some k_ ≠ (.slice jb j6.length jc : Value).ownBlock) (fun k_ => some k_ = (.slice jn j3.length jo : Value).ownBlock) rfl rfl ?aP (fun k_ hk_ => ((Kd.R_mono (ok' := fun k_ => ((fun k_ => some k_ ≠ (.slice jb j6.length jc : Value).ownBlock)) k_ ∧ some k_ ≠ (u5 : Value).ownBlock) (Kd.R_apart' (ja.out) (Kd.S_typed j2.out) (by decide)) (fun k_ hk => ⟨hk.1, hk.2⟩))).1 k_ hk_.symm) ?aF ?aO ?aB ?aS ?aL ?_; (case aP => exact Kd.M_row (Kd.R_mono (Kd.R_tight rfl (Kd.R_mono (ok' := fun k_ => ((fun k_ => some k_ ≠ (.slice jb j6.length jc : Value).ownBlock)) k_ ∧ some k_ ≠ (u5 : Value).ownBlock) (Kd.R_apart' (ja.out) (Kd.S_typed j2.out) (by decide)) (fun k_ hk => ⟨hk.1, hk.2⟩))) (fun _ h_ => h_))); (case aB => exact (uB0 HB)); (case aF => exact (fun k_ hk => Kd.fresh' (Kd.R_lt (ur j0)) k_ hk)); (case aO => exact (by (with_reducible repeat (first | apply Kd.S_alloc | apply Kd.S_drewN | apply Kd.S_drew)); exact Kd.S_mono j2.out (fun k_ hk => ⟨hk.1, fun e_ => hk.2 e_⟩))); (case aS => exact (below_size (uB0 HB))); (case aL => have := jk.out; omega); intro v114 w17 ho hb hg hat; rw [← jm.out] at ho; replace j0 := Aside0.mk (Kd.R_over' (ur j0) (Kd.S_typed (by (with_reducible repeat (first | apply Kd.S_alloc | apply Kd.S_drewN | apply Kd.S_drew)); exact j2.out)) (by decide) hg); replace HB := Aside0.mk (hb); have jp := Aside0.mk (ho); clear j2; clear ja; clear ho hb hg hat)); go_roundg k1
       case measure => have := HK1.out; omega
       case rel => exact ⟨(jl), (wrap64 (j4 + 1)), ue, H', ⟨by have := HK1.out; omega⟩, ⟨by (with_reducible repeat (first | apply Kd.S_alloc | apply Kd.S_drewN | apply Kd.S_drew)); exact Kd.S_mono jp.out (fun _ hk => trivial)⟩, ⟨uB0 HB⟩⟩
      ·
       rw [if_neg c10] at H; exact absurd H (by simp)
     ·
      rw [if_neg c7] at H; have ju := DL c7; clear c7; obtain rfl := Option.some.inj H; go_wp2; go_ret; exact ⟨_, by first | rfl | (simp [errW_none, errW_some] <;> rfl) | (simp [*, errW_none, errW_some] <;> rfl), by (with_reducible repeat (first | apply Kd.S_alloc | apply Kd.S_drewN | apply Kd.S_drew)); exact j2.out, uB0 HB⟩
  ·
   rw [if_neg c4] at H; exact absurd H (by simp)
 ·
  rw [if_neg c3] at H; exact absurd H (by simp)

end Go.Proofs.Ytdlaaccnaokdnaa.P
