-- written for this claim by a program (wip/gen/myprint.py over the print tool). Not trusted: Lean checks it.
import Derived.Test.YtdlaaccnaokdnaaPx0
import Derived.Test.YtdlaaccnaokdnaaHUp
namespace Go.Proofs.Ytdlaaccnaokdnaa.P
open Go.RowKit Go.Proofs.YtdlaaccnaokdnaaV.PrintWords Go.Proofs.YtdlaaccnaokdnaaV.PrintLast
set_option linter.unusedVariables false
set_option linter.unusedSimpArgs false

/-! ### spec_l1Copy: function 103 -/
def spec_l1Copy.f (a0_0 : Int) (l0_1 : List (S61)) : Option (Int × (List (S61))) := (some (([] : List (S61)) : List (S61))).bind fun y103 => (if y103.length + l0_1.length < 3518437208883 then (some (a0_0, (y103 ++ l0_1))) else (none))
def spec_l1Copy.T1 : Bool × List (List Nat × List Nat) := (true, [([], []), ([0], [0]), ([], []), ([], []), ([3], [3]), ([2, 4], [2, 4]), ([1, 5], [1, 5]), ([6, 5, 0, 1, 2, 3, 4, 5, 6], [6])])
def spec_l1Copy.B1 : List Nat := [0, 1, 0, 0, 8, 28, 63, 127]
theorem spec_l1Copy.tab1 : rtab .any (opsOf Try.f103 1) = spec_l1Copy.T1 := by kernel_rfl
theorem spec_l1Copy.bits1 : waitsOk spec_l1Copy.T1.2 spec_l1Copy.B1 = true := by kernel_rfl
set_option maxHeartbeats 8000000 in
set_option maxRecDepth 100000 in
theorem spec_l1Copy.calls (a0_0 : Int) (A0_1 : Option Addr) (c0_1 : Nat) (l0_1 : List (S61)) (r1 : Int) (r2 : List (S61)) (w : World) (hr0_1 : Kd.C k61 w A0_1 l0_1.length l0_1) (hc0_1 : l0_1.length ≤ c0_1) (h : spec_l1Copy.f a0_0 l0_1 = some (r1, r2)) :
  Calls Try.prog 103 #[.agg #[.int .i64 a0_0, .slice A0_1 l0_1.length c0_1]] w fun e w' => ∃ v1_ : Value, e = .returned (.agg #[.int .i64 r1, v1_]) ∧ Kd.R k61 61 w' w.heap.size (fun _ => True) v1_ r2 ∧ Below w.heap.size w w' := by
 have hu35 := Try.underlying35
 have jd := Aside0.mk hr0_1
 have jm := Aside0.mk hc0_1
 clear hr0_1 hc0_1
 have HB := Aside0.mk (Below.refl w.heap.size w)
 have H : ((some (([] : List (S61)) : List (S61))).bind fun j6 => (if j6.length + l0_1.length < 3518437208883 then (some (a0_0, (j6 ++ l0_1))) else (none))) = some (r1, r2) := h
 clear h
 obtain ⟨j6, j7⟩ : ∃ y_ : List (S61), y_ = (([] : List (S61))) := ⟨_, rfl⟩
 replace H : (if j6.length + l0_1.length < 3518437208883 then (some (a0_0, (j6 ++ l0_1))) else (none)) = some (r1, r2) := by first | (rw [j7]; with_reducible exact H) | (have H2_ := (Option.bind_some _ _).symm.trans H; rw [j7]; with_reducible exact H2_) | (have H2_ := (Option.bind_some _ _).symm.trans H; with_reducible exact H2_) | with_reducible exact H | (rw [j7]; exact H) | exact H
 have je := Aside0.mk j7
 clear j7
 by_cases c2 : j6.length + l0_1.length < 3518437208883
 ·
  rw [if_pos c2] at H; have jl := Aside0.mk c2; clear c2; obtain ⟨jf, j8⟩ : ∃ y_ : List (S61), y_ = (j6 ++ l0_1) := ⟨_, rfl⟩
  replace H : (some (a0_0, jf)) = some (r1, r2) := by first | (rw [j8]; with_reducible exact H) | (have H2_ := (Option.bind_some _ _).symm.trans H; rw [j8]; with_reducible exact H2_) | (have H2_ := (Option.bind_some _ _).symm.trans H; with_reducible exact H2_) | with_reducible exact H | (rw [j8]; exact H) | exact H
  have jg := Aside0.mk j8; clear j8; simp only [Option.some.injEq, Prod.mk.injEq] at H; obtain ⟨rfl, rfl⟩ := H; go_enter Try.func103, Try.ntmps103; try go_wp2_with (first | ((with_reducible refine gate_dst (N := 1) rfl ?_); refine be (cs := #[.int .i64 a0_0, .slice A0_1 l0_1.length c0_1]) (t := 35) ?_; intro jb hg w3 hbox hb; have j1 := Aside0.mk (hbox); have jn := gz w hg (uB0 HB); have j3 := gz w hg (uB0 HB); replace HB := Aside0.mk (below_step (uB0 HB) hb); clear hb hbox hg) | ((with_reducible refine gate_dst (N := 2) rfl ?_); refine be (cs := #[.int .i64 0, .slice none 0 0]) (t := 35) ?_; intro j4 hg w4 hbox hb; have j2 := Aside0.mk (hbox); have jo := gz w hg (uB1 HB j3.out); have j9 := gz w hg (uB1 HB j3.out); replace HB := Aside0.mk (below_step (uB1 HB j3.out) hb); have j0 := gl hg j1; have j5 := gr hg j1; replace j1 := bb j1 hb; clear hb hbox hg))
  replace j1 := Aside0.mk (blk_drew j1.out); replace j2 := Aside0.mk (blk_drew j2.out); replace HB := Aside0.mk (below_drew1 HB.out); refine start_ (n := 8) (S := fun w' => w'.cell? ⟨jb, 0, none⟩ = some (.int .i64 a0_0) ∧ w'.cell? ⟨jb, 1, none⟩ = some (.slice A0_1 l0_1.length c0_1)) (ds := []) (zt 8 0) (by kernel_rfl) rfl (by kernel_rfl) (b2_ j1) (fun hHeld => ?_); refine with_tabW spec_l1Copy.tab1 spec_l1Copy.bits1 (fun HT_ HW_ => ?_); generalize w4.drew = w5 at j1 j2 HB hHeld ⊢; refine qz HT_ 0 ?_; refine qz HT_ 3 ?_; refine qt HT_ HW_ hHeld 1 ?_; refine qt HT_ HW_ hHeld 4 ?_; refine qo HT_ 2 (fun K hK => ?_); refine Kd.R_lit_step k61 _ 61 ?hg (N := 5) ?hd (xs := ([] : List (S61))) (inner := []) (ok := fun _ => True) (okp := fun _ => True) ?hr ?hp (fun _ hk => hk) trivial (Below.refl _ _) (Nat.le_refl _) (by simp) ?_; (case hd => rfl); (case hg => rfl); (case hr => first | (go_simp; done) | (go_simp; rfl)); (case hp => exact (Reps.none _ _)); intro v104 w6 ho7 hb hg_ hnew_; clear hg_ hnew_; (rw [← je.out] at ho7); have ja := Aside0.mk (Kd.R_lower ho7 (below_size (uB2 HB j3.out j9.out))); replace j1 := bb j1 hb; replace j2 := bb j2 hb; replace HB := Aside0.mk (below_step (uB2 HB j3.out j9.out) hb); clear hb ho7; refine hK.out _ _ (b2_ j1) (fun hHeld => ?_); clear hK K; refine nz ?_
  refine qo HT_ 5 (fun K hK => ?_); refine Kd.R_append_rows_step k61 (w0 := w) w.heap.size (by rfl) (.tmp 5) (.tmp 7) 33 61 (.agg #[(.int .i64 0), (.int .i64 0), (.int .i64 0), (.int .i64 0), (.int .i64 0)]) 40 rfl Try.underlying33 info61 rfl (by decide) (by omega) v104 j6 l0_1 _ _ _ (fun _ => True) (fun _ => False) rfl rfl ?aO ?aR (fun _ _ h => h) (fun _ h => h.elim) ?aF ?aB ?aS ?aL ?_; (case aR => exact uC jd HB); (case aB => exact (uB2 HB j3.out j9.out)); (case aF => exact (fun _ _ => trivial)); (case aO => exact (ur ja)); (case aS => exact (below_size (uB2 HB j3.out j9.out))); (case aL => have := jl.out; omega); intro v107 w8 ho hb hg hat; rw [← jg.out] at ho; replace j1 := bg j1 hg (Kd.R_ne ja.out j1.out (by decide)); replace j2 := bg j2 hg (Kd.R_ne ja.out j2.out (by decide)); replace HB := Aside0.mk (hb); have jc := Aside0.mk (ho); clear ja; clear ho hb hg hat; obtain ⟨Ao9, co9, eo9⟩ := Kd.R_slice jc.out; (subst eo9); refine hK.out _ _ (b2_ j1) (fun hHeld => ?_); clear hK K; refine nz ?_
  refine qz HT_ 6 ?_; refine qo HT_ 7 (fun K hK => ?_); have jr : w8.cell? ⟨j4, 0, none⟩ = some (.int .i64 0) := (blk_cell j2.out 0).trans rfl; have jp := blk_frozen j2.out 0; have jh := j0.out; have ji := j5.out; have js : w8.cell? ⟨j4, 1, none⟩ = some (.slice none 0 0) := (blk_cell j2.out 1).trans rfl; have jq := blk_frozen j2.out 1; have jj := j0.out; have jk := j5.out; refine skip_ (w1 := ?_) (by rfl) rfl ?_ ?_; rotate_left
  ·
   go_simp; rfl
  refine hK.out _ _ ⟨((cell_far (p := ⟨j4, _, none⟩) j0.out _).trans (((cell_far (p := ⟨j4, _, none⟩) j0.out _).trans (hHeld.1)))), ((cell_far (p := ⟨j4, _, none⟩) j0.out _).trans (((cell_far (p := ⟨j4, _, none⟩) j0.out _).trans (hHeld.2))))⟩ (fun hHeld => ?_); clear hK K; refine done_ (done_of HT_.out (by kernel_rfl)) ?_; try go_wp2
  refine bodyPost_ret (results_cell_row rfl _ _ j4 35 #[.int .i64 a0_0, .slice Ao9 jf.length co9] (0, 0) _ rfl (by (with_reducible repeat first | apply zbn | apply zbd | apply zba); refine pu2 (.int .i64 0) (.slice none 0 0) ?_; exact ub j2) Try.underlying35 rfl (by kernel_rfl)) rfl ?_; exact ⟨_, by first | rfl | (simp [errW_none, errW_some] <;> rfl) | (simp [*, errW_none, errW_some] <;> rfl), by (with_reducible repeat (first | apply Kd.R_alloc | apply Kd.R_drewN | apply Kd.R_drew)); exact Kd.R_mono (rf2 jc j2) (fun _ hk => trivial), uB2 HB j3.out j9.out⟩
 ·
  rw [if_neg c2] at H; exact absurd H (by simp)

end Go.Proofs.Ytdlaaccnaokdnaa.P
