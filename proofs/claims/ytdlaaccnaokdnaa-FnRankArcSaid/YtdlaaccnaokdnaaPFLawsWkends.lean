-- written for this claim by a program (wip/gen/myprint.py over the print tool). Not trusted: Lean checks it.
import Derived.Test.YtdlaaccnaokdnaaPx0
import Derived.Test.YtdlaaccnaokdnaaHUp
import Derived.Test.YtdlaaccnaokdnaaPFImplWalkok
namespace Go.Proofs.Ytdlaaccnaokdnaa.P
open Go.RowKit Go.Proofs.YtdlaaccnaokdnaaV.PrintWords Go.Proofs.YtdlaaccnaokdnaaV.PrintLast
set_option linter.unusedVariables false
set_option linter.unusedSimpArgs false

/-! ### laws_wkEnds: function 45 -/
def laws_wkEnds.f (k : Nat) (a0_0 : Int) (l0_1 : List (S61)) (l1 : List Int) (a2 : Int) (a3 : Int) : Option (Bool) := if (l1.length : Int) = 0 then (some (a2 == a3)) else ((impl_WalkOk.f k a0_0 l0_1 l1).bind fun t102 => (if t102 = true then (if 0 < (l1.length : Int) then (if 0 ≤ (rd l1 0) then (if (rd l1 0) < (l0_1.length : Int) then (if ((rd_T61 l0_1 (rd l1 0)).f0) = a2 then (if 0 ≤ (wrap64 ((l1.length : Int) - 1)) then (if (wrap64 ((l1.length : Int) - 1)) < (l1.length : Int) then (if 0 ≤ (rd l1 (wrap64 ((l1.length : Int) - 1))) then (if (rd l1 (wrap64 ((l1.length : Int) - 1))) < (l0_1.length : Int) then (some (((rd_T61 l0_1 (rd l1 (wrap64 ((l1.length : Int) - 1)))).f1) == a3)) else (none)) else (none)) else (none)) else (none)) else (some false)) else (none)) else (none)) else (none)) else (some false)))
def laws_wkEnds.T3 : Bool × List (List Nat × List Nat) := (true, [([], []), ([], []), ([0, 1], [0, 1]), ([2, 2], [2]), ([3], [3]), ([4, 3], [3, 4]), ([3], [3]), ([6, 3], [3, 6]), ([7, 3], [3, 7]), ([5, 8, 3], [3, 5, 8]), ([9, 3], [3, 9]), ([10, 3], [3, 10]), ([3], [3]), ([11, 12, 3], [3, 11, 12]), ([3, 13], [3, 13]), ([14, 3], [14]), ([15], [15]), ([16, 15], [15, 16]), ([15], [15]), ([15], [15]), ([19, 15], [15, 19]), ([20, 15], [15, 20]), ([18, 21, 15], [15, 18, 21]), ([22, 15], [15, 22]), ([17, 23, 15], [15, 17, 23]), ([24, 15], [15, 24]), ([25, 15], [15, 25]), ([15], [15]), ([26, 27, 15], [15, 26, 27]), ([15, 28], [15, 28]), ([29, 15, 0, 1, 2, 3, 4, 5, 6, 7, 8, 9, 10, 11, 12, 13, 14, 15, 16, 17, 18, 19, 20, 21, 22, 23, 24, 25, 26, 27, 28, 29], [29])])
def laws_wkEnds.B3 : List Nat := [0, 0, 3, 7, 15, 31, 15, 79, 207, 511, 1023, 2047, 15, 8191, 16383, 32767, 65535, 131071, 65535, 65535, 589823, 1638399, 3997695, 8191999, 16777215, 33554431, 67108863, 65535, 268435455, 536870911, 1073741823]
theorem laws_wkEnds.tab3 : rtab .any (opsOf Try.f45 3) = laws_wkEnds.T3 := by kernel_rfl
theorem laws_wkEnds.bits3 : waitsOk laws_wkEnds.T3.2 laws_wkEnds.B3 = true := by kernel_rfl
set_option maxHeartbeats 8000000 in
set_option maxRecDepth 100000 in
theorem laws_wkEnds.calls (k : Nat) (a0_0 : Int) (A0_1 : Option Addr) (c0_1 : Nat) (l0_1 : List (S61)) (A1 : Option Addr) (c1 : Nat) (l1 : List Int) (a2 : Int) (a3 : Int) (r : Bool) (w : World) (hr0_1 : Kd.C k61 w A0_1 l0_1.length l0_1) (hc0_1 : l0_1.length ≤ c0_1) (hr1 : Kd.C (Kd.int .i64) w A1 l1.length l1) (hc1 : l1.length ≤ c1) (h : laws_wkEnds.f k a0_0 l0_1 l1 a2 a3 = some r) :
  Calls Try.prog 45 #[.agg #[.int .i64 a0_0, .slice A0_1 l0_1.length c0_1], .slice A1 l1.length c1, .int .i64 a2, .int .i64 a3] w fun e w' => e = .returned (.bool r) ∧ Below w.heap.size w w' := by
 have hu35 := Try.underlying35
 have jm := Aside0.mk hr0_1
 have jy := Aside0.mk hc0_1
 clear hr0_1 hc0_1
 have HR1 := Aside0.mk hr1
 have HC1 := Aside0.mk hc1
 clear hr1 hc1
 have HB := Aside0.mk (Below.refl w.heap.size w)
 have H : (if (l1.length : Int) = 0 then (some (a2 == a3)) else ((impl_WalkOk.f k a0_0 l0_1 l1).bind fun jz => (if jz = true then (if 0 < (l1.length : Int) then (if 0 ≤ (rd l1 0) then (if (rd l1 0) < (l0_1.length : Int) then (if ((rd_T61 l0_1 (rd l1 0)).f0) = a2 then (if 0 ≤ (wrap64 ((l1.length : Int) - 1)) then (if (wrap64 ((l1.length : Int) - 1)) < (l1.length : Int) then (if 0 ≤ (rd l1 (wrap64 ((l1.length : Int) - 1))) then (if (rd l1 (wrap64 ((l1.length : Int) - 1))) < (l0_1.length : Int) then (some (((rd_T61 l0_1 (rd l1 (wrap64 ((l1.length : Int) - 1)))).f1) == a3)) else (none)) else (none)) else (none)) else (none)) else (some false)) else (none)) else (none)) else (none)) else (some false)))) = some r := h
 clear h
 have HH_ := Aside0.mk H
 clear H
 go_enter Try.func45, Try.ntmps45
 go_upto_region 1 with (((with_reducible refine gate_dst (N := 4) rfl ?_); refine be (cs := #[.int .i64 a0_0, .slice A0_1 l0_1.length c0_1]) (t := 35) ?_; intro jn hg w5 hbox hb; have j2 := Aside0.mk (hbox); have jO := gz w hg (uB0 HB); have jk := gz w hg (uB0 HB); replace HB := Aside0.mk (below_step (uB0 HB) hb); clear hb hbox hg))
 have H := HH_.out
 clear HH_
 by_cases c6 : (l1.length : Int) = 0
 ·
  rw [if_pos c6] at H; obtain ⟨jK, jL⟩ := dq c6; clear c6; obtain rfl := Option.some.inj H; go_wp2; go_ret; exact ⟨ux, uB1 HB jk.out⟩
 ·
  rw [if_neg c6] at H; obtain ⟨jK, jL⟩ := dQ c6; have jV : ¬ (l1 = []) := fun h_ => c6 (by rw [h_]; rfl)
  replace H := Option.bind_eq_some_iff.mp H; obtain ⟨jz, A70, H⟩ := H; replace H : (if jz = true then (if 0 < (l1.length : Int) then (if 0 ≤ (rd l1 0) then (if (rd l1 0) < (l0_1.length : Int) then (if ((rd_T61 l0_1 (rd l1 0)).f0) = a2 then (if 0 ≤ (wrap64 ((l1.length : Int) - 1)) then (if (wrap64 ((l1.length : Int) - 1)) < (l1.length : Int) then (if 0 ≤ (rd l1 (wrap64 ((l1.length : Int) - 1))) then (if (rd l1 (wrap64 ((l1.length : Int) - 1))) < (l0_1.length : Int) then (some (((rd_T61 l0_1 (rd l1 (wrap64 ((l1.length : Int) - 1)))).f1) == a3)) else (none)) else (none)) else (none)) else (none)) else (some false)) else (none)) else (none)) else (none)) else (some false)) = some r := H; have A7 := Aside0.mk A70; clear A70; by_cases c8 : jz = true
  ·
   subst c8; rw [if_pos rfl] at H; by_cases c9 : 0 < (l1.length : Int)
   ·
    rw [if_pos c9] at H; have jW := dl c9; have jX : decide (0 < l1.length) = true := decide_eq_true (by omega); clear c9; by_cases c10 : 0 ≤ (rd l1 0)
    ·
     rw [if_pos c10] at H; have jP := de c10; clear c10; by_cases c11 : (rd l1 0) < (l0_1.length : Int)
     ·
      rw [if_pos c11] at H; have jQ := dl c11; clear c11; by_cases c12 : ((rd_T61 l0_1 (rd l1 0)).f0) = a2
      ·
       rw [if_pos c12] at H; obtain ⟨jG, jH⟩ := dq c12; clear c12; obtain ⟨ji13, hji13⟩ : ∃ j_ : Int, (wrap64 ((l1.length : Int) - 1)) = j_ := ⟨_, rfl⟩
       replace H : (if 0 ≤ (ji13) then (if (ji13) < (l1.length : Int) then (if 0 ≤ (rd l1 (ji13)) then (if (rd l1 (ji13)) < (l0_1.length : Int) then (some (((rd_T61 l0_1 (rd l1 (ji13))).f1) == a3)) else (none)) else (none)) else (none)) else (none)) = some r := by first | (rw [hji13] at H; exact H) | (simp only [hji13] at H ⊢; exact H)
       have hji13w : (IntKind.i64.wrap ((l1.length : Int) - 1)) = ji13 := (i64_w _).trans hji13; by_cases c14 : 0 ≤ (ji13)
       ·
        rw [if_pos c14] at H; have jR := de c14; clear c14; by_cases c15 : (ji13) < (l1.length : Int)
        ·
         rw [if_pos c15] at H; have jS := dl c15; clear c15; by_cases c16 : 0 ≤ (rd l1 (ji13))
         ·
          rw [if_pos c16] at H; have jT := de c16; clear c16; by_cases c17 : (rd l1 (ji13)) < (l0_1.length : Int)
          ·
           rw [if_pos c17] at H; have jU := dl c17; clear c17; obtain rfl := Option.some.inj H; try go_wp2
           replace j2 := Aside0.mk (blk_drew j2.out); replace HB := Aside0.mk (below_drew1 HB.out); have jo : 0 ≤ (0 : Int) := (by omega)
           have jp : 0 < (l1.length : Int) := ua; obtain ⟨jl, jA, j1⟩ := Kd.at_int HR1.out 0 jo jp; have j3 := j1; (try rw [show ((0 : Int)).toNat = 0 from rfl] at j3); (try rw [Addr.add_zero'] at j3)
           cases jA
           have qi103 : (0 < l1.length) = True := eq_true (by omega); (try rw [show ((0 : Int)).toNat = 0 from rfl] at j1); (try rw [Addr.add_zero'] at j1); replace j1 := uc HB j1; replace jo := eq_true jo; replace jp := eq_true jp; have jq : 0 ≤ ((rd l1 0) : Int) := ua; have jr : (rd l1 0) < (l0_1.length : Int) := ua; obtain ⟨j0, jB, j4, j5, j6, j7, j8⟩ := at_T61 jm.out (rd l1 0) jq jr; have j9 := j8; have ja := j7; have jb := j6; have jc := j5; have jd := j4
           cases jB
           replace j4 := uc HB j4; replace j5 := uc HB j5; replace j6 := uc HB j6; replace j7 := uc HB j7; replace j8 := uc HB j8; replace jq := eq_true jq; replace jr := eq_true jr; have jC : 0 ≤ ((ji13) : Int) := ua; have jD : (ji13) < (l1.length : Int) := ua; obtain ⟨jI, jM, je⟩ := Kd.at_int HR1.out (ji13) jC jD; have js := je; obtain rfl : jl = jI := (by injection jM)
           replace je := uc HB je; replace jC := eq_true jC; replace jD := eq_true jD; have jE : 0 ≤ ((rd l1 (ji13)) : Int) := ua; have jF : (rd l1 (ji13)) < (l0_1.length : Int) := ua; obtain ⟨jJ, jN, jf, jg, jh, ji, jj⟩ := at_T61 jm.out (rd l1 (ji13)) jE jF; have jt := jj; have ju := ji; have jv := jh; have jw := jg; have jx := jf; obtain rfl : j0 = jJ := (by injection jN)
           replace jf := uc HB jf; replace jg := uc HB jg; replace jh := uc HB jh; replace ji := uc HB ji; replace jj := uc HB jj; replace jE := eq_true jE; replace jF := eq_true jF; refine start_ (n := 31) (S := fun w' => w'.cell? ⟨jn, 0, none⟩ = some (.int .i64 a0_0) ∧ w'.cell? ⟨jn, 1, none⟩ = some (.slice (some j0) l0_1.length c0_1) ∧ w'.cell? jl = some (.int .i64 (rd l1 0)) ∧ w'.cell? (j0.add (((rd l1 0)).toNat * 5)) = some (.int .i64 ((rd_T61 l0_1 (rd l1 0)).f0)) ∧ w'.cell? ⟨(j0.add (((rd l1 0)).toNat * 5)).block, (j0.add (((rd l1 0)).toNat * 5)).off + 1, none⟩ = some (.int .i64 ((rd_T61 l0_1 (rd l1 0)).f1)) ∧ w'.cell? ⟨(j0.add (((rd l1 0)).toNat * 5)).block, (j0.add (((rd l1 0)).toNat * 5)).off + 2, none⟩ = some (.int .i64 ((rd_T61 l0_1 (rd l1 0)).f2)) ∧ w'.cell? ⟨(j0.add (((rd l1 0)).toNat * 5)).block, (j0.add (((rd l1 0)).toNat * 5)).off + 3, none⟩ = some (.int .i64 ((rd_T61 l0_1 (rd l1 0)).f3)) ∧ w'.cell? ⟨(j0.add (((rd l1 0)).toNat * 5)).block, (j0.add (((rd l1 0)).toNat * 5)).off + 4, none⟩ = some (.int .i64 ((rd_T61 l0_1 (rd l1 0)).f4)) ∧ w'.cell? (jl.add ((ji13)).toNat) = some (.int .i64 (rd l1 (ji13))) ∧ w'.cell? (j0.add (((rd l1 (ji13))).toNat * 5)) = some (.int .i64 ((rd_T61 l0_1 (rd l1 (ji13))).f0)) ∧ w'.cell? ⟨(j0.add (((rd l1 (ji13))).toNat * 5)).block, (j0.add (((rd l1 (ji13))).toNat * 5)).off + 1, none⟩ = some (.int .i64 ((rd_T61 l0_1 (rd l1 (ji13))).f1)) ∧ w'.cell? ⟨(j0.add (((rd l1 (ji13))).toNat * 5)).block, (j0.add (((rd l1 (ji13))).toNat * 5)).off + 2, none⟩ = some (.int .i64 ((rd_T61 l0_1 (rd l1 (ji13))).f2)) ∧ w'.cell? ⟨(j0.add (((rd l1 (ji13))).toNat * 5)).block, (j0.add (((rd l1 (ji13))).toNat * 5)).off + 3, none⟩ = some (.int .i64 ((rd_T61 l0_1 (rd l1 (ji13))).f3)) ∧ w'.cell? ⟨(j0.add (((rd l1 (ji13))).toNat * 5)).block, (j0.add (((rd l1 (ji13))).toNat * 5)).off + 4, none⟩ = some (.int .i64 ((rd_T61 l0_1 (rd l1 (ji13))).f4))) (ds := []) (zt 31 0) (by kernel_rfl) rfl (by kernel_rfl) (b2x j2 ⟨(ud HB j3), (ud HB jd), (ud HB jc), (ud HB jb), (ud HB ja), (ud HB j9), (ud HB js), (ud HB jx), (ud HB jw), (ud HB jv), (ud HB ju), (ud HB jt)⟩) (fun hHeld => ?_); refine with_tabW laws_wkEnds.tab3 laws_wkEnds.bits3 (fun HT_ HW_ => ?_); generalize w5.drew = w6 at j2 HB j1 j4 j5 j6 j7 j8 je jf jg jh ji jj hHeld ⊢; refine qz HT_ 1 ?_; refine qt HT_ HW_ hHeld 0 ?_; refine qo HT_ 2 (fun K hK => ?_); refine goes_ Try.func89 (by kernel_rfl) rfl #[.agg #[.int .i64 a0_0, .slice (some j0) l0_1.length c0_1], .slice (some jl) l1.length c1] (by rfl) rfl rfl ul ?_; with_reducible refine (impl_WalkOk.calls k a0_0 _ _ l0_1 _ _ l1 true _ ?side1 ?side2 ?side3 ?side4 A7.out).mono ?_
           (case side1 => exact uC jm HB); (case side2 => exact jy.out); (case side3 => exact uC HR1 HB); (case side4 => exact HC1.out); rintro e w7 ⟨rfl, hb⟩; refine ⟨_, rfl, ?_⟩; replace j2 := bb j2 hb; replace HB := Aside0.mk (below_step (uB1 HB jk.out) hb); (try clear hb); refine hK.out _ _ (b2x j2 ⟨(ud HB j3), (ud HB jd), (ud HB jc), (ud HB jb), (ud HB ja), (ud HB j9), (ud HB js), (ud HB jx), (ud HB jw), (ud HB jv), (ud HB ju), (ud HB jt)⟩) (fun hHeld => ?_); clear hK K; refine nz ?_
           refine qz HT_ 3 ?_; refine qz HT_ 4 ?_; refine qz HT_ 6 ?_; refine qz HT_ 7 ?_; refine qz HT_ 12 ?_; refine qt HT_ HW_ hHeld 5 ?_; refine qt HT_ HW_ hHeld 8 ?_; refine qz HT_ 9 ?_; refine qz HT_ 10 ?_; refine qt HT_ HW_ hHeld 11 ?_; refine qz HT_ 13 ?_; refine qz HT_ 14 ?_; refine qz HT_ 15 ?_; refine qz HT_ 16 ?_; refine qz HT_ 18 ?_; refine qz HT_ 19 ?_; refine qz HT_ 20 ?_; refine qz HT_ 21 ?_; refine qz HT_ 22 ?_; refine qz HT_ 27 ?_; refine qt HT_ HW_ hHeld 17 ?_; refine qt HT_ HW_ hHeld 23 ?_; refine qz HT_ 24 ?_; refine qz HT_ 25 ?_; refine qt HT_ HW_ hHeld 26 ?_; refine qz HT_ 28 ?_; refine qz HT_ 29 ?_; refine qz HT_ 30 ?_; refine done_ (done_of HT_.out (by kernel_rfl)) ?_; try go_wp2
           go_ret; exact ⟨by first | rfl | (simp [errW_none, errW_some] <;> rfl) | (simp only [← hji13]; first | rfl | (simp [errW_none, errW_some] <;> rfl)) | (simp [*, errW_none, errW_some] <;> rfl), uB1 HB jk.out⟩
          ·
           rw [if_neg c17] at H; exact absurd H (by simp)
         ·
          rw [if_neg c16] at H; exact absurd H (by simp)
        ·
         rw [if_neg c15] at H; exact absurd H (by simp)
       ·
        rw [if_neg c14] at H; exact absurd H (by simp)
      ·
       rw [if_neg c12] at H; obtain ⟨jG, jH⟩ := dQ c12; obtain rfl := Option.some.inj H; try go_wp2
       replace j2 := Aside0.mk (blk_drew j2.out); replace HB := Aside0.mk (below_drew1 HB.out); have jo : 0 ≤ (0 : Int) := (by omega)
       have jp : 0 < (l1.length : Int) := ua; obtain ⟨jl, jA, j1⟩ := Kd.at_int HR1.out 0 jo jp; have j3 := j1; (try rw [show ((0 : Int)).toNat = 0 from rfl] at j3); (try rw [Addr.add_zero'] at j3)
       cases jA
       have qi103 : (0 < l1.length) = True := eq_true (by omega); (try rw [show ((0 : Int)).toNat = 0 from rfl] at j1); (try rw [Addr.add_zero'] at j1); replace j1 := uc HB j1; replace jo := eq_true jo; replace jp := eq_true jp; have jq : 0 ≤ ((rd l1 0) : Int) := ua; have jr : (rd l1 0) < (l0_1.length : Int) := ua; obtain ⟨j0, jB, j4, j5, j6, j7, j8⟩ := at_T61 jm.out (rd l1 0) jq jr; have j9 := j8; have ja := j7; have jb := j6; have jc := j5; have jd := j4
       cases jB
       replace j4 := uc HB j4; replace j5 := uc HB j5; replace j6 := uc HB j6; replace j7 := uc HB j7; replace j8 := uc HB j8; replace jq := eq_true jq; replace jr := eq_true jr; refine start_ (n := 31) (S := fun w' => w'.cell? ⟨jn, 0, none⟩ = some (.int .i64 a0_0) ∧ w'.cell? ⟨jn, 1, none⟩ = some (.slice (some j0) l0_1.length c0_1) ∧ w'.cell? jl = some (.int .i64 (rd l1 0)) ∧ w'.cell? (j0.add (((rd l1 0)).toNat * 5)) = some (.int .i64 ((rd_T61 l0_1 (rd l1 0)).f0)) ∧ w'.cell? ⟨(j0.add (((rd l1 0)).toNat * 5)).block, (j0.add (((rd l1 0)).toNat * 5)).off + 1, none⟩ = some (.int .i64 ((rd_T61 l0_1 (rd l1 0)).f1)) ∧ w'.cell? ⟨(j0.add (((rd l1 0)).toNat * 5)).block, (j0.add (((rd l1 0)).toNat * 5)).off + 2, none⟩ = some (.int .i64 ((rd_T61 l0_1 (rd l1 0)).f2)) ∧ w'.cell? ⟨(j0.add (((rd l1 0)).toNat * 5)).block, (j0.add (((rd l1 0)).toNat * 5)).off + 3, none⟩ = some (.int .i64 ((rd_T61 l0_1 (rd l1 0)).f3)) ∧ w'.cell? ⟨(j0.add (((rd l1 0)).toNat * 5)).block, (j0.add (((rd l1 0)).toNat * 5)).off + 4, none⟩ = some (.int .i64 ((rd_T61 l0_1 (rd l1 0)).f4))) (ds := []) (zt 31 0) (by kernel_rfl) rfl (by kernel_rfl) (b2x j2 ⟨(ud HB j3), (ud HB jd), (ud HB jc), (ud HB jb), (ud HB ja), (ud HB j9)⟩) (fun hHeld => ?_); refine with_tabW laws_wkEnds.tab3 laws_wkEnds.bits3 (fun HT_ HW_ => ?_); generalize w5.drew = w6 at j2 HB j1 j4 j5 j6 j7 j8 hHeld ⊢; refine qz HT_ 1 ?_; refine qt HT_ HW_ hHeld 0 ?_; refine qo HT_ 2 (fun K hK => ?_); refine goes_ Try.func89 (by kernel_rfl) rfl #[.agg #[.int .i64 a0_0, .slice (some j0) l0_1.length c0_1], .slice (some jl) l1.length c1] (by rfl) rfl rfl ul ?_; with_reducible refine (impl_WalkOk.calls k a0_0 _ _ l0_1 _ _ l1 true _ ?side1 ?side2 ?side3 ?side4 A7.out).mono ?_
       (case side1 => exact uC jm HB); (case side2 => exact jy.out); (case side3 => exact uC HR1 HB); (case side4 => exact HC1.out); rintro e w7 ⟨rfl, hb⟩; refine ⟨_, rfl, ?_⟩; replace j2 := bb j2 hb; replace HB := Aside0.mk (below_step (uB1 HB jk.out) hb); (try clear hb); refine hK.out _ _ (b2x j2 ⟨(ud HB j3), (ud HB jd), (ud HB jc), (ud HB jb), (ud HB ja), (ud HB j9)⟩) (fun hHeld => ?_); clear hK K; refine nz ?_
       refine qz HT_ 3 ?_; refine qz HT_ 4 ?_; refine qz HT_ 6 ?_; refine qz HT_ 7 ?_; refine qz HT_ 12 ?_; refine qt HT_ HW_ hHeld 5 ?_; refine qt HT_ HW_ hHeld 8 ?_; refine qz HT_ 9 ?_; refine qz HT_ 10 ?_; refine qt HT_ HW_ hHeld 11 ?_; refine qz HT_ 13 ?_; refine qz HT_ 14 ?_; refine qz HT_ 15 ?_; refine qn HT_ 16 ?_; refine qn HT_ 17 ?_; refine qn HT_ 18 ?_; refine qn HT_ 19 ?_; refine qn HT_ 20 ?_; refine qn HT_ 21 ?_; refine qn HT_ 22 ?_; refine qn HT_ 23 ?_; refine qn HT_ 24 ?_; refine qn HT_ 25 ?_; refine qn HT_ 26 ?_; refine qn HT_ 27 ?_; refine qn HT_ 28 ?_; refine qz HT_ 29 ?_; refine qz HT_ 30 ?_; refine done_ (done_of HT_.out (by kernel_rfl)) ?_; try go_wp2
       go_ret; exact ⟨ux, uB1 HB jk.out⟩
     ·
      rw [if_neg c11] at H; exact absurd H (by simp)
    ·
     rw [if_neg c10] at H; exact absurd H (by simp)
   ·
    rw [if_neg c9] at H; exact absurd H (by simp)
  ·
   replace c8 := Bool.eq_false_iff.mpr c8; subst c8; rw [if_neg (show ¬ (false = true) by decide)] at H; obtain rfl := Option.some.inj H; try go_wp2
   replace j2 := Aside0.mk (blk_drew j2.out); replace HB := Aside0.mk (below_drew1 HB.out); refine start_ (n := 31) (S := fun w' => w'.cell? ⟨jn, 0, none⟩ = some (.int .i64 a0_0) ∧ w'.cell? ⟨jn, 1, none⟩ = some (.slice A0_1 l0_1.length c0_1)) (ds := []) (zt 31 0) (by kernel_rfl) rfl (by kernel_rfl) (b2_ j2) (fun hHeld => ?_); refine with_tabW laws_wkEnds.tab3 laws_wkEnds.bits3 (fun HT_ HW_ => ?_); generalize w5.drew = w6 at j2 HB hHeld ⊢; refine qz HT_ 1 ?_; refine qt HT_ HW_ hHeld 0 ?_; refine qo HT_ 2 (fun K hK => ?_); refine goes_ Try.func89 (by kernel_rfl) rfl #[.agg #[.int .i64 a0_0, .slice A0_1 l0_1.length c0_1], .slice A1 l1.length c1] (by rfl) rfl rfl ul ?_; with_reducible refine (impl_WalkOk.calls k a0_0 _ _ l0_1 _ _ l1 false _ ?side1 ?side2 ?side3 ?side4 A7.out).mono ?_
   (case side1 => exact uC jm HB); (case side2 => exact jy.out); (case side3 => exact uC HR1 HB); (case side4 => exact HC1.out); rintro e w7 ⟨rfl, hb⟩; refine ⟨_, rfl, ?_⟩; replace j2 := bb j2 hb; replace HB := Aside0.mk (below_step (uB1 HB jk.out) hb); (try clear hb); refine hK.out _ _ (b2_ j2) (fun hHeld => ?_); clear hK K; refine nz ?_
   refine qz HT_ 3 ?_; refine qn HT_ 4 ?_; refine qn HT_ 5 ?_; refine qn HT_ 6 ?_; refine qn HT_ 7 ?_; refine qn HT_ 8 ?_; refine qn HT_ 9 ?_; refine qn HT_ 10 ?_; refine qn HT_ 11 ?_; refine qn HT_ 12 ?_; refine qn HT_ 13 ?_; refine qz HT_ 14 ?_; refine qz HT_ 15 ?_; refine qn HT_ 16 ?_; refine qn HT_ 17 ?_; refine qn HT_ 18 ?_; refine qn HT_ 19 ?_; refine qn HT_ 20 ?_; refine qn HT_ 21 ?_; refine qn HT_ 22 ?_; refine qn HT_ 23 ?_; refine qn HT_ 24 ?_; refine qn HT_ 25 ?_; refine qn HT_ 26 ?_; refine qn HT_ 27 ?_; refine qn HT_ 28 ?_; refine qz HT_ 29 ?_; refine qz HT_ 30 ?_; refine done_ (done_of HT_.out (by kernel_rfl)) ?_; try go_wp2
   go_ret; exact ⟨ux, uB1 HB jk.out⟩

end Go.Proofs.Ytdlaaccnaokdnaa.P
