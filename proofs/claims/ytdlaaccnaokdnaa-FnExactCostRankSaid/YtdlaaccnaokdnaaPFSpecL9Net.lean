-- several texts of this claim in one
import Derived.Test.YtdlaaccnaokdnaaPx0
import Derived.Test.YtdlaaccnaokdnaaHUp
-- written for this claim by a program (wip/gen/myprint.py over the print tool). Not trusted: Lean checks it.
namespace Go.Proofs.Ytdlaaccnaokdnaa.P
open Go.RowKit Go.Proofs.YtdlaaccnaokdnaaV.PrintWords Go.Proofs.YtdlaaccnaokdnaaV.PrintLast
set_option linter.unusedVariables false
set_option linter.unusedSimpArgs false

/-! ### spec_l1Copy: function 103 -/
def spec_l1Copy.f (a0_0 : Int) (l0_1 : List (S61)) : Option (Int × (List (S61))) := (some (([] : List (S61)) : List (S61))).bind fun y103 => (if y103.length + l0_1.length < 3518437208883 then (some (a0_0, (y103 ++ l0_1))) else (none))
def spec_l1Copy.T1 : Bool × List (List Nat × List Nat) := (true, [([], []), ([0], [0]), ([], []), ([], []), ([3], [3]), ([2, 4], [2, 4]), ([1, 5], [1, 5]), ([6, 5, 0, 1, 2, 3, 4, 5, 6], [6])])
def spec_l1Copy.B1 : List Nat := [0, 1, 0, 0, 8, 28, 63, 127]
theorem spec_l1Copy.tab1 : rtab .any (opsOf Try.f103 1) = spec_l1Copy.T1 := by kernel_rfl
theorem spec_l1Copy.bits1 : waitsOk spec_l1Copy.T1.2 spec_l1Copy.B1 = true := by kernel_rfl
set_option maxHeartbeats 8000000 in
set_option maxRecDepth 100000 in
theorem spec_l1Copy.calls (a0_0 : Int) (A0_1 : Option Addr) (c0_1 : Nat) (l0_1 : List (S61)) (r1 : Int) (r2 : List (S61)) (w : World) (hr0_1 : Kd.C k61 w A0_1 l0_1.length l0_1) (hc0_1 : l0_1.length ≤ c0_1) (h : spec_l1Copy.f a0_0 l0_1 = some (r1, r2)) :
  Calls Try.prog 103 #[.agg #[.int .i64 a0_0, .slice A0_1 l0_1.length c0_1]] w fun e w' => ∃ v1_ : Value, e = .returned (.agg #[.int .i64 r1, v1_]) ∧ Kd.R k61 61 w' w.heap.size (fun _ => True) v1_ r2 ∧ Below w.heap.size w w' := by
 have hu35 := Try.underlying35
 have jd := Aside0.mk hr0_1
 have jm := Aside0.mk hc0_1
 clear hr0_1 hc0_1
 have HB := Aside0.mk (Below.refl w.heap.size w)
 have H : ((some (([] : List (S61)) : List (S61))).bind fun j6 => (if j6.length + l0_1.length < 3518437208883 then (some (a0_0, (j6 ++ l0_1))) else (none))) = some (r1, r2) := h
 clear h
 obtain ⟨j6, j7⟩ : ∃ y_ : List (S61), y_ = (([] : List (S61))) := ⟨_, rfl⟩
 replace H : (if j6.length + l0_1.length < 3518437208883 then (some (a0_0, (j6 ++ l0_1))) else (none)) = some (r1, r2) := by first | (rw [j7]; with_reducible exact H) | (have H2_ := (Option.bind_some _ _).symm.trans H; rw [j7]; with_reducible exact H2_) | (have H2_ := (Option.bind_some _ _).symm.trans H; with_reducible exact H2_) | with_reducible exact H | (rw [j7]; exact H) | exact H
 have je := Aside0.mk j7
 clear j7
 by_cases c2 : j6.length + l0_1.length < 3518437208883
 ·
  rw [if_pos c2] at H; have jl := Aside0.mk c2; clear c2; obtain ⟨jf, j8⟩ : ∃ y_ : List (S61), y_ = (j6 ++ l0_1) := ⟨_, rfl⟩
  replace H : (some (a0_0, jf)) = some (r1, r2) := by first | (rw [j8]; with_reducible exact H) | (have H2_ := (Option.bind_some _ _).symm.trans H; rw [j8]; with_reducible exact H2_) | (have H2_ := (Option.bind_some _ _).symm.trans H; with_reducible exact H2_) | with_reducible exact H | (rw [j8]; exact H) | exact H
  have jg := Aside0.mk j8; clear j8; simp only [Option.some.injEq, Prod.mk.injEq] at H; obtain ⟨rfl, rfl⟩ := H; go_enter Try.func103, Try.ntmps103; try go_wp2_with (first | ((with_reducible refine gate_dst (N := 1) rfl ?_); refine be (cs := #[.int .i64 a0_0, .slice A0_1 l0_1.length c0_1]) (t := 35) ?_; intro jb hg w3 hbox hb; have j1 := Aside0.mk (hbox); have jn := gz w hg (uB0 HB); have j3 := gz w hg (uB0 HB); replace HB := Aside0.mk (below_step (uB0 HB) hb); clear hb hbox hg) | ((with_reducible refine gate_dst (N := 2) rfl ?_); refine be (cs := #[.int .i64 0, .slice none 0 0]) (t := 35) ?_; intro j4 hg w4 hbox hb; have j2 := Aside0.mk (hbox); have jo := gz w hg (uB1 HB j3.out); have j9 := gz w hg (uB1 HB j3.out); replace HB := Aside0.mk (below_step (uB1 HB j3.out) hb); have j0 := gl hg j1; have j5 := gr hg j1; replace j1 := bb j1 hb; clear hb hbox hg))
  replace j1 := Aside0.mk (blk_drew j1.out); replace j2 := Aside0.mk (blk_drew j2.out); replace HB := Aside0.mk (below_drew1 HB.out); refine start_ (n := 8) (S := fun w' => w'.cell? ⟨jb, 0, none⟩ = some (.int .i64 a0_0) ∧ w'.cell? ⟨jb, 1, none⟩ = some (.slice A0_1 l0_1.length c0_1)) (ds := []) (zt 8 0) (by kernel_rfl) rfl (by kernel_rfl) (b2_ j1) (fun hHeld => ?_); refine with_tabW spec_l1Copy.tab1 spec_l1Copy.bits1 (fun HT_ HW_ => ?_); generalize w4.drew = w5 at j1 j2 HB hHeld ⊢; refine qz HT_ 0 ?_; refine qz HT_ 3 ?_; refine qt HT_ HW_ hHeld 1 ?_; refine qt HT_ HW_ hHeld 4 ?_; refine qo HT_ 2 (fun K hK => ?_); refine Kd.R_lit_step k61 _ 61 ?hg (N := 5) ?hd (xs := ([] : List (S61))) (inner := []) (ok := fun _ => True) (okp := fun _ => True) ?hr ?hp (fun _ hk => hk) trivial (Below.refl _ _) (Nat.le_refl _) (by simp) ?_; (case hd => rfl); (case hg => rfl); (case hr => first | (go_simp; done) | (go_simp; rfl)); (case hp => exact (Reps.none _ _)); intro v104 w6 ho7 hb hg_ hnew_; clear hg_ hnew_; (rw [← je.out] at ho7); have ja := Aside0.mk (Kd.R_lower ho7 (below_size (uB2 HB j3.out j9.out))); replace j1 := bb j1 hb; replace j2 := bb j2 hb; replace HB := Aside0.mk (below_step (uB2 HB j3.out j9.out) hb); clear hb ho7; refine hK.out _ _ (b2_ j1) (fun hHeld => ?_); clear hK K; refine nz ?_
  refine qo HT_ 5 (fun K hK => ?_); refine Kd.R_append_rows_step k61 (w0 := w) w.heap.size (by rfl) (.tmp 5) (.tmp 7) 33 61 (.agg #[(.int .i64 0), (.int .i64 0), (.int .i64 0), (.int .i64 0), (.int .i64 0)]) 40 rfl Try.underlying33 info61 rfl (by decide) (by omega) v104 j6 l0_1 _ _ _ (fun _ => True) (fun _ => False) rfl rfl ?aO ?aR (fun _ _ h => h) (fun _ h => h.elim) ?aF ?aB ?aS ?aL ?_; (case aR => exact uC jd HB); (case aB => exact (uB2 HB j3.out j9.out)); (case aF => exact (fun _ _ => trivial)); (case aO => exact (ur ja)); (case aS => exact (below_size (uB2 HB j3.out j9.out))); (case aL => have := jl.out; omega); intro v107 w8 ho hb hg hat; rw [← jg.out] at ho; replace j1 := bg j1 hg (Kd.R_ne ja.out j1.out (by decide)); replace j2 := bg j2 hg (Kd.R_ne ja.out j2.out (by decide)); replace HB := Aside0.mk (hb); have jc := Aside0.mk (ho); clear ja; clear ho hb hg hat; obtain ⟨Ao9, co9, eo9⟩ := Kd.R_slice jc.out; (subst eo9); refine hK.out _ _ (b2_ j1) (fun hHeld => ?_); clear hK K; refine nz ?_
  refine qz HT_ 6 ?_; refine qo HT_ 7 (fun K hK => ?_); have jr : w8.cell? ⟨j4, 0, none⟩ = some (.int .i64 0) := (blk_cell j2.out 0).trans rfl; have jp := blk_frozen j2.out 0; have jh := j0.out; have ji := j5.out; have js : w8.cell? ⟨j4, 1, none⟩ = some (.slice none 0 0) := (blk_cell j2.out 1).trans rfl; have jq := blk_frozen j2.out 1; have jj := j0.out; have jk := j5.out; refine skip_ (w1 := ?_) (by rfl) rfl ?_ ?_; rotate_left
  ·
   go_simp; rfl
  refine hK.out _ _ ⟨((cell_far (p := ⟨j4, _, none⟩) j0.out _).trans (((cell_far (p := ⟨j4, _, none⟩) j0.out _).trans (hHeld.1)))), ((cell_far (p := ⟨j4, _, none⟩) j0.out _).trans (((cell_far (p := ⟨j4, _, none⟩) j0.out _).trans (hHeld.2))))⟩ (fun hHeld => ?_); clear hK K; refine done_ (done_of HT_.out (by kernel_rfl)) ?_; try go_wp2
  refine bodyPost_ret (results_cell_row rfl _ _ j4 35 #[.int .i64 a0_0, .slice Ao9 jf.length co9] (0, 0) _ rfl (by (with_reducible repeat first | apply zbn | apply zbd | apply zba); refine pu2 (.int .i64 0) (.slice none 0 0) ?_; exact ub j2) Try.underlying35 rfl (by kernel_rfl)) rfl ?_; exact ⟨_, by first | rfl | (simp [errW_none, errW_some] <;> rfl) | (simp [*, errW_none, errW_some] <;> rfl), by (with_reducible repeat (first | apply Kd.R_alloc | apply Kd.R_drewN | apply Kd.R_drew)); exact Kd.R_mono (rf2 jc j2) (fun _ hk => trivial), uB2 HB j3.out j9.out⟩
 ·
  rw [if_neg c2] at H; exact absurd H (by simp)

end Go.Proofs.Ytdlaaccnaokdnaa.P
-- written for this claim by a program (wip/gen/myprint.py over the print tool). Not trusted: Lean checks it.
namespace Go.Proofs.Ytdlaaccnaokdnaa.P
open Go.RowKit Go.Proofs.YtdlaaccnaokdnaaV.PrintWords Go.Proofs.YtdlaaccnaokdnaaV.PrintLast
set_option linter.unusedVariables false
set_option linter.unusedSimpArgs false

/-! ### spec_l9Net: function 69 -/
def spec_l9Net.l0 : Nat → List Int → Int → Int → List (S61) → Option (Int × (List (S61)))
 | 0, _, _, _, _ => none
 | k + 1, x1, x6, x108000, x108001 => if x6 < (x108001.length : Int) then (if 0 ≤ x6 then (if x6 < (x1.length : Int) then (spec_l9Net.l0 k x1 (wrap64 (x6 + 1)) x108000 (x108001.set (x6 : Int).toNat (⟨(rd_T61 x108001 x6).f0, (rd_T61 x108001 x6).f1, rd x1 x6, (rd_T61 x108001 x6).f3, (rd_T61 x108001 x6).f4⟩ : S61))) else (none)) else (none)) else (some (x108000, x108001))
def spec_l9Net.f (k : Nat) (a0_0 : Int) (l0_1 : List (S61)) (l1 : List Int) : Option (Int × (List (S61))) := (spec_l1Copy.f a0_0 l0_1).bind fun bt103 => (spec_l9Net.l0 k l1 0 bt103.1 bt103.2)
def spec_l9Net.T5 : Bool × List (List Nat × List Nat) := (true, [([], []), ([0], [0]), ([], []), ([], []), ([], []), ([3, 4], [3, 4]), ([5], [5]), ([1, 2, 0, 1, 2, 3, 4, 5, 6], [1, 2]), ([7, 0, 1, 2, 3, 4, 5, 6], [7]), ([8, 6, 0, 1, 2, 3, 4, 5, 6], [6, 8])])
def spec_l9Net.B5 : List Nat := [0, 1, 0, 0, 0, 24, 56, 127, 255, 511]
theorem spec_l9Net.tab5 : rtab .any (opsOf Try.f69 5) = spec_l9Net.T5 := by kernel_rfl
theorem spec_l9Net.bits5 : waitsOk spec_l9Net.T5.2 spec_l9Net.B5 = true := by kernel_rfl
set_option maxHeartbeats 8000000 in
set_option maxRecDepth 100000 in
theorem spec_l9Net.calls (k : Nat) (a0_0 : Int) (A0_1 : Option Addr) (c0_1 : Nat) (l0_1 : List (S61)) (A1 : Option Addr) (c1 : Nat) (l1 : List Int) (r1 : Int) (r2 : List (S61)) (w : World) (hr0_1 : Kd.C k61 w A0_1 l0_1.length l0_1) (hc0_1 : l0_1.length ≤ c0_1) (hr1 : Kd.C (Kd.int .i64) w A1 l1.length l1) (hc1 : l1.length ≤ c1) (h : spec_l9Net.f k a0_0 l0_1 l1 = some (r1, r2)) :
  Calls Try.prog 69 #[.agg #[.int .i64 a0_0, .slice A0_1 l0_1.length c0_1], .slice A1 l1.length c1] w fun e w' => ∃ v1_ : Value, e = .returned (.agg #[.int .i64 r1, v1_]) ∧ Kd.R k61 61 w' w.heap.size (fun _ => True) v1_ r2 ∧ Below w.heap.size w w' := by
 have hu35 := Try.underlying35
 have jM := Aside0.mk hr0_1
 have jN := Aside0.mk hc0_1
 clear hr0_1 hc0_1
 have HR1 := Aside0.mk hr1
 have HC1 := Aside0.mk hc1
 clear hr1 hc1
 have HB := Aside0.mk (Below.refl w.heap.size w)
 have H : ((spec_l1Copy.f a0_0 l0_1).bind fun bt103 => (spec_l9Net.l0 k l1 0 bt103.1 bt103.2)) = some (r1, r2) := h
 clear h
 replace H := Option.bind_eq_some_iff.mp H
 obtain ⟨⟨ji, jm⟩, A30, H⟩ := H
 replace H : (spec_l9Net.l0 k l1 0 ji jm) = some (r1, r2) := H
 have A3 := Aside0.mk A30
 clear A30
 have H' := Aside0.mk H
 clear H
 go_enter Try.func69, Try.ntmps69
 go_wp2_with (first | ((with_reducible refine gate_dst (N := 2) rfl ?_); refine be (cs := #[.int .i64 a0_0, .slice A0_1 l0_1.length c0_1]) (t := 35) ?_; intro jO hg w4 hbox hb; have j3 := Aside0.mk (hbox); have j0o := gz w hg (uB0 HB); have j6 := gz w hg (uB0 HB); replace HB := Aside0.mk (below_step (uB0 HB) hb); clear hb hbox hg) | ((with_reducible refine gate_dst (N := 4) rfl ?_); refine be (cs := #[.int .i64 0, .slice none 0 0]) (t := 35) ?_; intro js hg w5 hbox hb; have j4 := Aside0.mk (hbox); have j0p := gz w hg (uB1 HB j6.out); have jb := gz w hg (uB1 HB j6.out); replace HB := Aside0.mk (below_step (uB1 HB j6.out) hb); have je := gl hg j3; have jf := gr hg j3; replace j3 := bb j3 hb; clear hb hbox hg; have j0H := je.out; have j0I := jf.out; obtain ⟨jv, jw, jx, jy⟩ := bc2 j3) | ((with_reducible refine gate_callee (f := 103) rfl ?_); refine goesL_ (some 8) rfl rfl Try.func103 (by kernel_rfl) rfl #[.agg #[.int .i64 a0_0, .slice A0_1 l0_1.length c0_1]] rfl ul ?_; (with_reducible refine (spec_l1Copy.calls a0_0 _ _ l0_1 ji jm _ ?side1 ?side2 A3.out).mono ?_); (case side1 => exact uC jM HB); (case side2 => exact jN.out); rintro e w8 ⟨v105, rfl, ho0, hb⟩; refine ⟨_, rfl, ?_⟩; have jj := Aside0.mk (Kd.R_lower ho0 (below_size (uB2 HB j6.out jb.out))); replace j3 := bb j3 hb; replace j4 := bb j4 hb; replace HB := Aside0.mk (below_step (uB2 HB j6.out jb.out) hb); (try clear hb); (try clear ho0)) | ((with_reducible refine gate_dst (N := 5) rfl ?_); refine be (cs := #[.int .i64 0, .slice none 0 0]) (t := 35) ?_; intro jk hg w9 hbox hb; replace jj := Aside0.mk (Kd.R_below (ur jj) hb); have j5 := Aside0.mk (hbox); have j0q := gz w hg (uB2 HB j6.out jb.out); have jl := gz w hg (uB2 HB j6.out jb.out); replace HB := Aside0.mk (below_step (uB2 HB j6.out jb.out) hb); have j7 := gl hg j3; have j9 := gr hg j3; replace j3 := bb j3 hb; have j8 := gl hg j4; have ja := gr hg j4; replace j4 := bb j4 hb; clear hb hbox hg; have j0r := j9.out; have j0s := j7.out; have j0t := ja.out; have j0u := j8.out; obtain ⟨jn, jo, jp, jq⟩ := bc2 j5; obtain ⟨j0c, j0d, j0e⟩ := Kd.R_slice jj.out; subst j0e))
 go_loopg [6] k (fun kq v6 w' => ∃ (j2 : Int) (j0 : List (S61)) (u108001 : Value), v6 = .int .i64 j2 ∧ Aside0 (spec_l9Net.l0 kq l1 j2 ji j0 = some (r1, r2)) ∧ Aside0 (kq ≤ k) ∧ Aside0 (Kd.R k61 61 w' w.heap.size (fun _ => True) u108001 j0) ∧ Aside0 (w'.heap[jO]? = some (.cells #[.int .i64 a0_0, (.slice A0_1 l0_1.length c0_1)] 35 (0, 0))) ∧ Aside0 (w'.heap[js]? = some (.cells #[.int .i64 0, (.slice none 0 0)] 35 (0, 0))) ∧ Aside0 (w'.heap[jk]? = some (.cells #[.int .i64 ji, u108001] 35 (0, 0))) ∧ Aside0 (Below w.heap.size w w'))
 case atStart => exact ⟨(0), (jm), (.slice j0c jm.length j0d), ue, H', ⟨Nat.le_refl _⟩, ⟨by (with_reducible repeat (first | apply Kd.R_alloc | apply Kd.R_drewN | apply Kd.R_drew)); exact Kd.R_mono (rf2 jj j5) (fun _ hk => trivial)⟩, ⟨by (with_reducible repeat first | apply zbn | apply zbd | apply zba); refine fa2 ?_ j7; exact ub j3⟩, ⟨by (with_reducible repeat first | apply zbn | apply zbd | apply zba); refine fa2 ?_ j8; exact ub j4⟩, ⟨by (with_reducible repeat first | apply zbn | apply zbd | apply zba); refine pu2 (.int .i64 0) (.slice none 0 0) ?_; exact ub j5⟩, ⟨uB3 HB j6.out jb.out jl.out⟩⟩
 case round =>
  clear H'
  clear jn jo jv jw jp jq jx jy
  obtain ⟨j2, j0, u108001, rfl, HA, HK1, j1, j3, j4, j5, HB⟩ := hrel
  cases gk with
  | zero => exact absurd HA.out (by simp [spec_l9Net.l0])
  | succ k1 =>
   have H := HA.out; clear HA; simp only [spec_l9Net.l0] at H; by_cases c14 : j2 < (j0.length : Int)
   ·
    rw [if_pos c14] at H; have jP := dl c14; clear c14; by_cases c15 : 0 ≤ j2
    ·
     rw [if_pos c15] at H; have j0v := de c15; clear c15; by_cases c16 : j2 < (l1.length : Int)
     ·
      rw [if_pos c16] at H; have j0w := dl c16; clear c16; obtain ⟨jQ, jh⟩ : ∃ y_ : List (S61), y_ = (j0.set (j2 : Int).toNat (⟨(rd_T61 j0 j2).f0, (rd_T61 j0 j2).f1, rd l1 j2, (rd_T61 j0 j2).f3, (rd_T61 j0 j2).f4⟩ : S61)) := ⟨_, rfl⟩
      replace H : (spec_l9Net.l0 k1 l1 (wrap64 (j2 + 1)) ji jQ) = some (r1, r2) := by first | (rw [jh]; with_reducible exact H) | (have H2_ := (Option.bind_some _ _).symm.trans H; rw [jh]; with_reducible exact H2_) | (have H2_ := (Option.bind_some _ _).symm.trans H; with_reducible exact H2_) | with_reducible exact H | (rw [jh]; exact H) | exact H
      have jR := Aside0.mk jh; clear jh; have H' := Aside0.mk H; clear H; have j0x := j9.out; have j0y := j7.out; have j0z := ja.out; have j0A := j8.out; obtain ⟨j00, j01, j02, j03⟩ := bc2 j5; obtain ⟨j0J, jS, j0f⟩ := Kd.R_slice j1.out; subst j0f; try go_wp2
      replace j1 := Aside0.mk (Kd.R_drew j1.out); replace j3 := Aside0.mk (blk_drew j3.out); replace j4 := Aside0.mk (blk_drew j4.out); replace j5 := Aside0.mk (blk_drew j5.out); replace HB := Aside0.mk (below_drew1 HB.out); have jz : 0 ≤ (j2 : Int) := ua; have jA : j2 < (l1.length : Int) := ua; obtain ⟨jT, j0g, jd⟩ := Kd.at_int HR1.out j2 jz jA; have jr := jd
      cases j0g
      replace jd := uc HB jd; replace jz := eq_true jz; replace jA := eq_true jA; have p17 : 0 ≤ (j2 : Int) := ua; have q17 : (j2 : Int) < ((j0.length : Int) : Int) := ua; obtain ⟨jc, j0K, j0h, jU, j0i, j0L, jV⟩ := Kd.R_form j1.out (by omega); (cases j0h); have j0j := Aside0.mk jU; have j0k := Aside0.mk jV; clear jU j0i jV; obtain ⟨j0M, jW, jX, jg, hfr17⟩ := Kd.R_elem j1.out z61 (j2 : Int) p17 q17; obtain rfl := k61_openM jX; have jB : World.cell? _ ⟨jc, (j2 : Int).toNat * 5, none⟩ = some (.int .i64 ((rd_T61 j0 j2).f0)) := jg 0 _ rfl; have jC : World.cell? _ ⟨jc, (j2 : Int).toNat * 5 + 1, none⟩ = some (.int .i64 ((rd_T61 j0 j2).f1)) := jg 1 _ rfl; have jD : World.cell? _ ⟨jc, (j2 : Int).toNat * 5 + 2, none⟩ = some (.int .i64 ((rd_T61 j0 j2).f2)) := jg 2 _ rfl; have jE : World.cell? _ ⟨jc, (j2 : Int).toNat * 5 + 3, none⟩ = some (.int .i64 ((rd_T61 j0 j2).f3)) := jg 3 _ rfl; have jF : World.cell? _ ⟨jc, (j2 : Int).toNat * 5 + 4, none⟩ = some (.int .i64 ((rd_T61 j0 j2).f4)) := jg 4 _ rfl; have jG : World.frozen? _ ⟨jc, (j2 : Int).toNat * 5, none⟩ = false := hfr17 0; have jH : World.frozen? _ ⟨jc, (j2 : Int).toNat * 5 + 1, none⟩ = false := hfr17 1; have jI : World.frozen? _ ⟨jc, (j2 : Int).toNat * 5 + 2, none⟩ = false := hfr17 2; have jJ : World.frozen? _ ⟨jc, (j2 : Int).toNat * 5 + 3, none⟩ = false := hfr17 3; have jK : World.frozen? _ ⟨jc, (j2 : Int).toNat * 5 + 4, none⟩ = false := hfr17 4; clear jW jg hfr17 jX; replace p17 := eq_true p17; replace q17 := eq_true q17; obtain ⟨j0N, jt, jY, ju, hfr23⟩ := Kd.R_elem j1.out z61 (j2 : Int) (ua) (by have h_ : (j2 : Int) < ((j0.length : Int) : Int) := ua; first | exact h_ | (have e_ := (Kd.R_reads' j1.out).1; omega) | simpa using h_); obtain rfl := k61_openM jY; have jL := (Kd.R_seg j1.out (j2 : Int) (ua) (by have h_ : (j2 : Int) < ((j0.length : Int) : Int) := ua; first | exact h_ | (have e_ := (Kd.R_reads' j1.out).1; omega) | simpa using h_) (seg := [.int .i64 (rd l1 j2)]) (j := 2) jt ju (show 3 ≤ 5 from by decide) (x' := (⟨(rd_T61 j0 j2).f0, (rd_T61 j0 j2).f1, rd l1 j2, (rd_T61 j0 j2).f3, (rd_T61 j0 j2).f4⟩ : S61)) (k61_mkM _ _ _ (⟨(rd_T61 j0 j2).f0, (rd_T61 j0 j2).f1, rd l1 j2, (rd_T61 j0 j2).f3, (rd_T61 j0 j2).f4⟩ : S61) ) (fun _ hk => hk)).1; rw [← jR.out] at jL; have jZ := Aside0.mk jL; clear jt ju hfr23 jY jL; refine start_ (n := 10) (S := fun w' => w'.cell? ⟨jk, 0, none⟩ = some (.int .i64 ji) ∧ w'.cell? ⟨jk, 1, none⟩ = some (.slice (some ⟨jc, 0, none⟩) j0.length jS) ∧ w'.cell? (jT.add (j2).toNat) = some (.int .i64 (rd l1 j2))) (ds := [9]) (zt 10 0) (by kernel_rfl) rfl (by kernel_rfl) (b2x j5 (ud HB jr)) (fun hHeld => ?_); refine with_tabW spec_l9Net.tab5 spec_l9Net.bits5 (fun HT_ HW_ => ?_); generalize wr.drew = w22 at j1 j3 j4 j5 HB j0k jZ jG jH jI jJ jK jd jB jC jD jE jF hHeld ⊢; refine qz HT_ 0 ?_; refine qz HT_ 2 ?_; refine qz HT_ 3 ?_; refine qz HT_ 4 ?_; refine qz HT_ 5 ?_; refine qt HT_ HW_ hHeld 1 ?_; refine qt HT_ HW_ hHeld 6 ?_; refine qz HT_ 7 ?_; refine qz HT_ 8 ?_; refine last_ (i := 9) (N := none) (zt 10 1023) rfl rfl (one_of HT_.out (by kernel_rfl)) (by decide) (fun K hK => ?_); refine skip_ (w1 := ?_) (by rfl) rfl ?_ ?_; rotate_left
      ·
       go_simp; rfl
      refine hK.out _ _ ?_; clear hK K; refine done_ (done_of HT_.out (by kernel_rfl)) ?_; try go_wp2
      go_roundg k1
      case measure => have := HK1.out; omega
      case rel => exact ⟨(wrap64 (j2 + 1)), (jQ), (.slice (some ⟨jc, 0, none⟩) j0.length jS), ue, H', ⟨by have := HK1.out; omega⟩, ⟨ur jZ⟩, ⟨by (with_reducible repeat first | apply zbn | apply zbd | apply zba); refine blk_far ?_ (by have h_ := Kd.R_ne j1.out j3.out (by decide); intro e_; exact h_ (by rw [e_]; rfl)) _; exact ub j3⟩, ⟨by (with_reducible repeat first | apply zbn | apply zbd | apply zba); refine blk_far ?_ (by have h_ := Kd.R_ne j1.out j4.out (by decide); intro e_; exact h_ (by rw [e_]; rfl)) _; exact ub j4⟩, ⟨by (with_reducible repeat first | apply zbn | apply zbd | apply zba); refine blk_far ?_ (by have h_ := Kd.R_ne j1.out j5.out (by decide); intro e_; exact h_ (by rw [e_]; rfl)) _; exact ub j5⟩, ⟨uB4 HB j0j.out j6.out jb.out jl.out⟩⟩
     ·
      rw [if_neg c16] at H; exact absurd H (by simp)
    ·
     rw [if_neg c15] at H; exact absurd H (by simp)
   ·
    rw [if_neg c14] at H; have jP := DL c14; clear c14; simp only [Option.some.injEq, Prod.mk.injEq] at H; obtain ⟨rfl, rfl⟩ := H; have j0B := j9.out; have j0C := j7.out; have j0D := ja.out; have j0E := j8.out; obtain ⟨j04, j05, j06, j07⟩ := bc2 j5; obtain ⟨j0l, j0m, j0n⟩ := Kd.R_slice j1.out; subst j0n; have j0F := jf.out; have j0G := je.out; obtain ⟨j08, j09, j0a, j0b⟩ := bc2 j4; go_wp2; refine bodyPost_ret (results_cell_row rfl _ _ js 35 #[.int .i64 ji, .slice j0l j0.length j0m] (0, 0) _ rfl (by (with_reducible repeat first | apply zbn | apply zbd | apply zba); refine pu2 (.int .i64 0) (.slice none 0 0) ?_; exact ub j4) Try.underlying35 rfl (by kernel_rfl)) rfl ?_; exact ⟨_, by first | rfl | (simp [errW_none, errW_some] <;> rfl) | (simp [*, errW_none, errW_some] <;> rfl), by (with_reducible repeat (first | apply Kd.R_alloc | apply Kd.R_drewN | apply Kd.R_drew)); exact Kd.R_mono (rf2 j1 j4) (fun _ hk => trivial), uB3 HB j6.out jb.out jl.out⟩

end Go.Proofs.Ytdlaaccnaokdnaa.P
