-- printed for this claim by a program
import Derived.Test.YtblpdfgplifccaaPx0
import Derived.Test.YtblpdfgplifccaaHUp
import Derived.Test.YtblpdfgplifccaaGFrom
import Derived.Test.YtblpdfgplifccaaPFSpecDrawpartnear
import Derived.Test.YtblpdfgplifccaaPFImplPartnear
import Derived.Test.YtblpdfgplifccaaPFSpecPartnear
namespace Go.Proofs.Ytblpdfgplifccaa.P
open Go.RowKit Go.Proofs.YtblpdfgplifccaaV.PrintWords Go.Proofs.YtblpdfgplifccaaV.PrintLast
set_option linter.unusedVariables false
set_option linter.unusedSimpArgs false

/-! ### laws_FnPartNear: function 13 -/
def laws_FnPartNear.j0 : Nat → List Int → Int → Int → Int → Bool → Int → List (S33) → Option (Bool)
 | 0, _, _, _, _, _, _, _ => none
 | k + 1, x4, x5, x6, x7, x33, x111000, x111001 => if x33 = true then ((spec_PartNear.f k x111000 x111001 x4 x5 x6).bind fun t113 => (some (x7 == t113))) else ((impl_NearAll.f k x111000 x111001 x5).bind fun t114 => (if 0 ≤ x6 then (if x6 < (t114.length : Int) then (if x7 = (rd t114 x6) then (if 0 ≤ x111000 then (if (x111000 : Int).toNat ≤ 35184372088832 then ((impl_PartNear.f k x111000 x111001 (List.replicate (x111000 : Int).toNat 0) x5 x6).bind fun t121 => (some (x7 == t121))) else (none)) else (none)) else (some false)) else (none)) else (none)))
def laws_FnPartNear.f (k : Nat) (l0 : List Int) : Option (Bool) := if (l0.length : Int) > 1048576 then (some true) else ((spec_DrawPartNear.f k l0).bind fun bt101 => ((impl_PartNear.f k bt101.1 bt101.2.1 bt101.2.2.1 bt101.2.2.2.1 bt101.2.2.2.2).bind fun t111 => ((spec_PartNear.f k bt101.1 bt101.2.1 bt101.2.2.1 bt101.2.2.2.1 bt101.2.2.2.2).bind fun t112 => (if t111 = t112 then (laws_FnPartNear.j0 k bt101.2.2.1 bt101.2.2.2.1 bt101.2.2.2.2 t111 (decide (t111 < 0)) bt101.1 bt101.2.1) else (laws_FnPartNear.j0 k bt101.2.2.1 bt101.2.2.2.1 bt101.2.2.2.2 t111 true bt101.1 bt101.2.1)))))
def laws_FnPartNear.T7 : Bool × List (List Nat × List Nat) := (true, [([], []), ([], []), ([], []), ([1, 2], [1, 2]), ([], []), ([3, 4], [3, 4]), ([5], [5]), ([0, 6], [0, 6]), ([7, 3], [7]), ([8], [8]), ([8], [8]), ([8], [8]), ([11, 8], [8, 11]), ([12, 12, 8], [8, 12]), ([8], [8]), ([8], [8]), ([10, 13, 14, 15, 8, 8], [8, 10, 13, 14, 15]), ([9, 16, 8], [8, 9, 16]), ([8, 17], [8, 17]), ([18, 16, 0, 1, 2, 3, 4, 5, 6, 7, 8, 9, 10, 11, 12, 13, 14, 15, 16, 17, 18], [18])])
def laws_FnPartNear.B7 : List Nat := [0, 0, 0, 6, 0, 30, 62, 127, 255, 511, 511, 511, 2559, 6655, 511, 511, 65023, 131071, 262143, 524287]
theorem laws_FnPartNear.tab7 : rtab .any (opsOf Try.f13 7) = laws_FnPartNear.T7 := by kernel_rfl
theorem laws_FnPartNear.bits7 : waitsOk laws_FnPartNear.T7.2 laws_FnPartNear.B7 = true := by kernel_rfl
set_option maxHeartbeats 8000000 in
set_option maxRecDepth 100000 in
theorem laws_FnPartNear.calls (k : Nat) (A0 : Option Addr) (c0 : Nat) (l0 : List Int) (w : World) (hr0 : Kd.C (Kd.int .u8) w A0 l0.length l0) (hc0 : l0.length ≤ c0) (h : laws_FnPartNear.f k l0 = some true) :
  Calls Try.prog 13 #[.slice A0 l0.length c0] w fun e w' => e = .returned (.bool true) ∧ Below w.heap.size w w' := by
 have hu25 := Try.underlying25
 have HR0 := Aside0.mk hr0
 have HC0 := Aside0.mk hc0
 clear hr0 hc0
 have HB := Aside0.mk (Below.refl w.heap.size w)
 have H : (if (l0.length : Int) > 1048576 then (some true) else ((spec_DrawPartNear.f k l0).bind fun bt101 => ((impl_PartNear.f k bt101.1 bt101.2.1 bt101.2.2.1 bt101.2.2.2.1 bt101.2.2.2.2).bind fun j5 => ((spec_PartNear.f k bt101.1 bt101.2.1 bt101.2.2.1 bt101.2.2.2.1 bt101.2.2.2.2).bind fun jd => (if j5 = jd then (laws_FnPartNear.j0 k bt101.2.2.1 bt101.2.2.2.1 bt101.2.2.2.2 j5 (decide (j5 < 0)) bt101.1 bt101.2.1) else (laws_FnPartNear.j0 k bt101.2.2.1 bt101.2.2.2.1 bt101.2.2.2.2 j5 true bt101.1 bt101.2.1)))))) = some true := h
 clear h
 by_cases c2 : (l0.length : Int) > 1048576
 ·
  rw [if_pos c2] at H; have jD := dl c2; have jE : decide (1048576 < l0.length) = true := decide_eq_true (by omega); clear c2; clear H; go_enter Try.func13, Try.ntmps13; go_wp2; go_ret; exact ⟨by first | rfl | (simp [errW_none, errW_some] <;> rfl) | (simp [*, errW_none, errW_some] <;> rfl) | exact congrArg (fun b_ => Ending.returned (Value.bool b_)) HE_.out, uB0 HB⟩
 ·
  rw [if_neg c2] at H; have jD := DL c2; have jE : decide (1048576 < l0.length) = false := decide_eq_false (by omega); clear c2; replace H := Option.bind_eq_some_iff.mp H; obtain ⟨⟨j2, j4, j9, j8, j3⟩, A30, H⟩ := H; replace H : ((impl_PartNear.f k j2 j4 j9 j8 j3).bind fun j5 => ((spec_PartNear.f k j2 j4 j9 j8 j3).bind fun jd => (if j5 = jd then (laws_FnPartNear.j0 k j9 j8 j3 j5 (decide (j5 < 0)) j2 j4) else (laws_FnPartNear.j0 k j9 j8 j3 j5 true j2 j4)))) = some true := H; have A3 := Aside0.mk A30; clear A30; replace H := Option.bind_eq_some_iff.mp H; obtain ⟨j5, A40, H⟩ := H; replace H : ((spec_PartNear.f k j2 j4 j9 j8 j3).bind fun jd => (if j5 = jd then (laws_FnPartNear.j0 k j9 j8 j3 j5 (decide (j5 < 0)) j2 j4) else (laws_FnPartNear.j0 k j9 j8 j3 j5 true j2 j4))) = some true := H; have A4 := Aside0.mk A40; clear A40; have HC5 := Aside0.mk H; clear H; go_enter Try.func13, Try.ntmps13; go_upto_region 5 with (first | ((with_reducible refine gate_callee (f := 52) rfl ?_); refine goesL_ (some 13) rfl rfl Try.func52 (by kernel_rfl) rfl #[.slice A0 l0.length c0] rfl ul ?_; (with_reducible refine (spec_DrawPartNear.calls k _ _ l0 j2 j4 j9 j8 j3 _ ?side1 ?side2 A3.out).mono ?_); (case side1 => repeat (first | exact HR0.out | (with_reducible refine Kd.C_alloc ?_ _) | (with_reducible refine Kd.C_drewN ?_ _) | (with_reducible refine Kd.C_drew ?_))); (case side2 => exact HC0.out); rintro e w6 ⟨v103, v106, rfl, ho0, ho1, hb⟩; refine ⟨_, rfl, ?_⟩; have j6 := Aside0.mk (Kd.R_lower ho0 (below_size (uB0 HB))); have j7 := Aside0.mk (Kd.R_lower ho1 (below_size (uB0 HB))); replace HB := Aside0.mk (below_step (uB0 HB) hb); (try clear hb); (try clear hb2); (try clear hk); (try clear hi); (try clear ho0); (try clear ho1)) | ((with_reducible refine gate_dst (N := 3) rfl ?_); refine be (cs := #[.int .i64 0, .slice none 0 0]) (t := 25) ?_; intro ji hg w7 hbox hb; replace j6 := Aside0.mk (Kd.R_below (ur j6) hb); replace j7 := Aside0.mk (Kd.R_below (ur j7) hb); have j1 := Aside0.mk (hbox); have jZ := gz w hg (uB0 HB); have ja := gz w hg (uB0 HB); replace HB := Aside0.mk (below_step (uB0 HB) hb); clear hb hbox hg; obtain ⟨jy, jz, jA, jB⟩ := bc2 j1; obtain ⟨Ao9, co9, eo9⟩ := Kd.R_slice j6.out; subst eo9; obtain ⟨jm, jk, jS⟩ := Kd.R_slice j7.out; subst jS) | ((with_reducible refine gate_callee (f := 53) rfl ?_); refine goesL_ (some 22) rfl rfl Try.func53 (by kernel_rfl) rfl #[.agg #[.int .i64 j2, .slice Ao9 j4.length co9], .slice jm j9.length jk, .int .i64 j8, .int .i64 j3] rfl ul ?_; (with_reducible refine (impl_PartNear.calls k j2 _ _ j4 _ _ j9 j8 j3 j5 _ ?side1 ?side2 ?side3 ?side4 A4.out).mono ?_); (case side1 => refine (Kd.R_reads' (e := 33) (base := w.heap.size) (ok := fun k_ => True) (n := j4.length) (c := co9) ?_).2.2; exact (by (with_reducible repeat (first | apply Kd.R_alloc | apply Kd.R_drewN | apply Kd.R_drew)); exact (Kd.R_mono (rf2 j6 j1) (fun _ h_ => h_.1)))); (case side2 => exact (Kd.R_reads' j6.out).2.1); (case side3 => refine (Kd.R_reads' (e := 3) (base := w.heap.size) (ok := fun k_ => True) (n := j9.length) (c := jk) ?_).2.2; exact (by (with_reducible repeat (first | apply Kd.R_alloc | apply Kd.R_drewN | apply Kd.R_drew)); exact (Kd.R_mono (rf2 j7 j1) (fun _ h_ => h_.1)))); (case side4 => exact (Kd.R_reads' j7.out).2.1); rintro e w11 ⟨rfl, hb⟩; refine ⟨_, rfl, ?_⟩; replace j6 := Aside0.mk (Kd.R_below (by (with_reducible repeat (first | apply Kd.R_alloc | apply Kd.R_drewN | apply Kd.R_drew)); exact (Kd.R_mono (rf2 j6 j1) (fun _ h_ => h_.1))) hb); replace j7 := Aside0.mk (Kd.R_below (by (with_reducible repeat (first | apply Kd.R_alloc | apply Kd.R_drewN | apply Kd.R_drew)); exact (Kd.R_mono (rf2 j7 j1) (fun _ h_ => h_.1))) hb); replace j1 := Aside0.mk (blk_below (g := ji) (o := .cells #[.int .i64 j2, .slice Ao9 j4.length co9] 25 (0, 0)) (by (with_reducible repeat first | apply zbn | apply zbd | apply zba); refine pu2 (.int .i64 0) (.slice none 0 0) ?_; exact ub j1) hb); replace HB := Aside0.mk (below_step (uB1 HB ja.out) hb); (try clear hb); (try clear hb2); (try clear hk); (try clear hi)))
  (try simp only [Act.put, List.setIfInBounds_toArray, List.set_cons_zero, List.set_cons_succ]); go_cut [33] (fun v33 wc => ∃ (kq : Nat) (jj : Bool), v33 = .bool jj ∧ Aside0 (laws_FnPartNear.j0 kq j9 j8 j3 j5 jj j2 j4 = some true) ∧ Aside0 (kq ≤ k) ∧ Aside0 (Kd.R (Kd.int .i64) 3 wc w.heap.size (fun _ => True) (.slice jm j9.length jk) j9) ∧ Aside0 (Kd.R k33 33 wc w.heap.size (fun _ => True) (.slice Ao9 j4.length co9) j4) ∧ Aside0 (wc.heap[ji]? = some (.cells #[.int .i64 j2, (.slice Ao9 j4.length co9)] 25 (0, 0))) ∧ Aside0 (Below w.heap.size w wc))
  case first =>
   have H := HC5.out; clear HC5; replace H := Option.bind_eq_some_iff.mp H; obtain ⟨jd, jF, H⟩ := H; replace H : (if j5 = jd then (laws_FnPartNear.j0 k j9 j8 j3 j5 (decide (j5 < 0)) j2 j4) else (laws_FnPartNear.j0 k j9 j8 j3 j5 true j2 j4)) = some true := H; have A12 := Aside0.mk jF; clear jF; by_cases c13 : j5 = jd
   ·
    rw [if_pos c13] at H; obtain ⟨je, jw⟩ := dq c13; clear c13; (first | rw [je] | (simp only [i64_w, i32_w]; rw [je]) | skip); have H' := Aside0.mk H; clear H; obtain ⟨jn, jo, jp, jq⟩ := bc2 j1; go_wp2_with (first | ((with_reducible refine gate_callee (f := 54) rfl ?_); refine goesL_ (some 28) rfl rfl Try.func54 (by kernel_rfl) rfl #[.agg #[.int .i64 j2, .slice Ao9 j4.length co9], .slice jm j9.length jk, .int .i64 j8, .int .i64 j3] rfl ul ?_; (with_reducible refine (spec_PartNear.calls k j2 _ _ j4 _ _ j9 j8 j3 jd _ ?side1 ?side2 ?side3 ?side4 A12.out).mono ?_); (case side1 => exact uD (Kd.R_reads' j6.out).2.2); (case side2 => exact (Kd.R_reads' j6.out).2.1); (case side3 => exact uD (Kd.R_reads' j7.out).2.2); (case side4 => exact (Kd.R_reads' j7.out).2.1); rintro e w15 ⟨rfl, hb⟩; refine ⟨_, rfl, ?_⟩; replace j6 := Aside0.mk (Kd.R_below (ur j6) hb); replace j7 := Aside0.mk (Kd.R_below (ur j7) hb); replace j1 := bb j1 hb; replace HB := Aside0.mk (below_step (uB1 HB ja.out) hb); (try clear hb); (try clear hb2); (try clear hk); (try clear hi))); go_meet
    case rel => exact ⟨_, (decide (j5 < 0)), ue, H', ⟨by first | omega | exact Nat.le_refl _⟩, ⟨ur j7⟩, ⟨ur j6⟩, ⟨ub j1⟩, ⟨uB1 HB ja.out⟩⟩
   ·
    rw [if_neg c13] at H; obtain ⟨je, jw⟩ := dQ c13; (first | rw [je] | (simp only [i64_w, i32_w]; rw [je]) | skip); have H' := Aside0.mk H; clear H; obtain ⟨jr, js, jt, ju⟩ := bc2 j1; go_wp2_with (first | ((with_reducible refine gate_callee (f := 54) rfl ?_); refine goesL_ (some 28) rfl rfl Try.func54 (by kernel_rfl) rfl #[.agg #[.int .i64 j2, .slice Ao9 j4.length co9], .slice jm j9.length jk, .int .i64 j8, .int .i64 j3] rfl ul ?_; (with_reducible refine (spec_PartNear.calls k j2 _ _ j4 _ _ j9 j8 j3 jd _ ?side1 ?side2 ?side3 ?side4 A12.out).mono ?_); (case side1 => exact uD (Kd.R_reads' j6.out).2.2); (case side2 => exact (Kd.R_reads' j6.out).2.1); (case side3 => exact uD (Kd.R_reads' j7.out).2.2); (case side4 => exact (Kd.R_reads' j7.out).2.1); rintro e w17 ⟨rfl, hb⟩; refine ⟨_, rfl, ?_⟩; replace j6 := Aside0.mk (Kd.R_below (ur j6) hb); replace j7 := Aside0.mk (Kd.R_below (ur j7) hb); replace j1 := bb j1 hb; replace HB := Aside0.mk (below_step (uB1 HB ja.out) hb); (try clear hb); (try clear hb2); (try clear hk); (try clear hi))); go_meet
    case rel => exact ⟨_, (true), ue, H', ⟨by first | omega | exact Nat.le_refl _⟩, ⟨ur j7⟩, ⟨ur j6⟩, ⟨ub j1⟩, ⟨uB1 HB ja.out⟩⟩
  case rest =>
   clear HC5; try clear c1
   (try clear c2); (try clear jD); (try clear jE); (try clear p2); (try clear c5); (try clear c13); (try clear je); (try clear jw); (try clear jn jo); (try clear jr js); (try clear jy jz); (try clear jp jq); (try clear jt ju); (try clear jA jB)
   obtain ⟨kq, jj, rfl, HA, HJ4, jb, j0, j1, HB⟩ := hcut
   cases kq with
   | zero => exact absurd HA.out (by simp [laws_FnPartNear.j0])
   | succ kj4 =>
    have H := HA.out; clear HA; simp only [laws_FnPartNear.j0] at H; by_cases c18 : jj = true
    ·
     subst c18; rw [if_pos rfl] at H; replace H := Option.bind_eq_some_iff.mp H; obtain ⟨jG, jH, H⟩ := H; replace H : (some (j5 == jG)) = some true := H; have A19 := Aside0.mk jH; clear jH; have HE_ := Aside0.mk (Option.some.inj H); clear H; obtain ⟨jO, jP, jQ, jR⟩ := bc2 j1; go_wp2_with (first | ((with_reducible refine gate_callee (f := 54) rfl ?_); refine goesL_ (some 39) rfl rfl Try.func54 (by kernel_rfl) rfl #[.agg #[.int .i64 j2, .slice Ao9 j4.length co9], .slice jm j9.length jk, .int .i64 j8, .int .i64 j3] rfl ul ?_; (with_reducible refine (spec_PartNear.calls kj4 j2 _ _ j4 _ _ j9 j8 j3 jG _ ?side1 ?side2 ?side3 ?side4 A19.out).mono ?_); (case side1 => exact uD (Kd.R_reads' j0.out).2.2); (case side2 => exact (Kd.R_reads' j0.out).2.1); (case side3 => exact uD (Kd.R_reads' jb.out).2.2); (case side4 => exact (Kd.R_reads' jb.out).2.1); rintro e w21 ⟨rfl, hb⟩; refine ⟨_, rfl, ?_⟩; replace jb := Aside0.mk (Kd.R_below (ur jb) hb); replace j0 := Aside0.mk (Kd.R_below (ur j0) hb); replace j1 := bb j1 hb; replace HB := Aside0.mk (below_step (uB1 HB ja.out) hb); (try clear hb); (try clear hb2); (try clear hk); (try clear hi))); go_ret; exact ⟨by first | rfl | (simp [errW_none, errW_some] <;> rfl) | (simp [*, errW_none, errW_some] <;> rfl) | exact congrArg (fun b_ => Ending.returned (Value.bool b_)) HE_.out, uB1 HB ja.out⟩
    ·
     replace c18 := Bool.eq_false_iff.mpr c18; subst c18; rw [if_neg (show ¬ (false = true) by decide)] at H; replace H := Option.bind_eq_some_iff.mp H; obtain ⟨jh, jI, H⟩ := H; replace H : (if 0 ≤ j3 then (if j3 < (jh.length : Int) then (if j5 = (rd jh j3) then (if 0 ≤ j2 then (if (j2 : Int).toNat ≤ 35184372088832 then ((impl_PartNear.f kj4 j2 j4 (List.replicate (j2 : Int).toNat 0) j8 j3).bind fun jl => (some (j5 == jl))) else (none)) else (none)) else (some false)) else (none)) else (none)) = some true := H; have A22 := Aside0.mk jI; clear jI; by_cases c23 : 0 ≤ j3
     ·
      rw [if_pos c23] at H; have j00 := de c23; clear c23; by_cases c24 : j3 < (jh.length : Int)
      ·
       rw [if_pos c24] at H; have j01 := dl c24; clear c24; by_cases c25 : j5 = (rd jh j3)
       ·
        rw [if_pos c25] at H; obtain ⟨jJ, jK⟩ := dq c25; clear c25; by_cases c26 : 0 ≤ j2
        ·
         rw [if_pos c26] at H; have j02 := eq_true c26; have j03 := de c26; clear c26; by_cases c27 : (j2 : Int).toNat ≤ 35184372088832
         ·
          rw [if_pos c27] at H; have j04 := eq_true c27; have j05 := de c27; clear c27; obtain ⟨jC, jf⟩ : ∃ y_ : List Int, y_ = (List.replicate (j2 : Int).toNat 0) := ⟨_, rfl⟩
          replace H : ((impl_PartNear.f kj4 j2 j4 jC j8 j3).bind fun jl => (some (j5 == jl))) = some true := by first | (rw [jf]; with_reducible exact H) | (have H2_ := (Option.bind_some _ _).symm.trans H; rw [jf]; with_reducible exact H2_) | (have H2_ := (Option.bind_some _ _).symm.trans H; with_reducible exact H2_) | with_reducible exact H | (rw [jf]; exact H) | exact H
          have jx := Aside0.mk jf; clear jf; replace H := Option.bind_eq_some_iff.mp H; obtain ⟨jl, jL, H⟩ := H; replace H : (some (j5 == jl)) = some true := H; have A28 := Aside0.mk jL; clear jL; have HE_ := Aside0.mk (Option.some.inj H); clear H; try go_wp2
          have pi117 : (0 ≤ (j3 : Int)) = True := eq_true (ua); have qi117 : (j3 < (jh.length : Int)) = True := eq_true (ua); replace jb := Aside0.mk (Kd.R_drew jb.out); replace j0 := Aside0.mk (Kd.R_drew j0.out); replace j1 := Aside0.mk (blk_drew j1.out); replace HB := Aside0.mk (below_drew1 HB.out); refine start_ (n := 20) (S := fun w' => w'.cell? ⟨ji, 0, none⟩ = some (.int .i64 j2) ∧ w'.cell? ⟨ji, 1, none⟩ = some (.slice Ao9 j4.length co9)) (ds := []) (zt 20 0) (by kernel_rfl) rfl (by kernel_rfl) (b2_ j1) (fun hHeld => ?_); refine with_tabW laws_FnPartNear.tab7 laws_FnPartNear.bits7 (fun HT_ HW_ => ?_); generalize wc.drew = w29 at jb j0 j1 HB hHeld ⊢; refine qz HT_ 0 ?_; refine qz HT_ 2 ?_; refine qz HT_ 4 ?_; refine qt HT_ HW_ hHeld 1 ?_; refine qo HT_ 3 (fun K hK => ?_); refine goes_ Try.func51 (by kernel_rfl) rfl #[.agg #[.int .i64 j2, .slice Ao9 j4.length co9], .int .i64 j8] (by rfl) rfl rfl ul ?_; with_reducible refine (impl_NearAll.calls kj4 j2 _ _ j4 j8 jh _ ?side1 ?side2 A22.out).mono ?_
          (case side1 => exact uD (Kd.R_reads' j0.out).2.2); (case side2 => exact (Kd.R_reads' j0.out).2.1); rintro e w30 ⟨v115, rfl, ho0, hb⟩; refine ⟨_, rfl, ?_⟩; replace j0 := Aside0.mk (Kd.R_below (ur j0) hb); have jc := Aside0.mk (Kd.R_lower (Kd.R_new' ho0 (Kd.R_lt (ur jb))) (below_size (uB1 HB ja.out))); replace jb := Aside0.mk (Kd.R_elder' (ur jb) (Kd.R_base ho0) hb); replace j1 := bb j1 hb; replace HB := Aside0.mk (below_step (uB1 HB ja.out) hb); (try clear hb); (try clear hb2); (try clear hk); (try clear hi); (try clear ho0); obtain ⟨j06, j07, jT⟩ := Kd.R_slice jc.out; subst jT; obtain ⟨ado31, fo31, _⟩ := Kd.at_int (Kd.R_reads' jc.out).2.2 0 (by decide) (by have h1_ := of_eq_true pi117; have h2_ := of_eq_true qi117; omega)
          cases fo31
          refine hK.out _ _ (b2_ j1) (fun hHeld => ?_); clear hK K; refine nz ?_
          refine qz HT_ 5 ?_; refine qo HT_ 6 (fun K hK => ?_); (have jU : 0 ≤ (j3 : Int) := ua; have jV : j3 < (jh.length : Int) := ua; obtain ⟨jM, jW, jv⟩ := Kd.at_int (Kd.R_reads' jc.out).2.2 j3 jU jV; obtain rfl : ado31 = jM := (by injection jW)); refine value_ (w1 := ?_) (v := ?_) (by rfl) rfl ?_ ?_; rotate_left 2
          ·
           go_simp
           constructor
           ·
            rfl
           ·
            rfl
          clear jv; refine hK.out _ _ (b2_ j1) (fun hHeld => ?_); clear hK K; refine nz ?_
          refine qz HT_ 7 ?_; refine qz HT_ 8 ?_; refine qz HT_ 9 ?_; refine qz HT_ 11 ?_; refine qz HT_ 14 ?_; refine qz HT_ 15 ?_; refine qt HT_ HW_ hHeld 10 ?_; refine qt HT_ HW_ hHeld 12 ?_; refine qo HT_ 13 (fun K hK => ?_); refine Kd.R_make_step (Kd.int .i64) _ 3 (by rfl) (N := 54) rfl 26 _ _ rfl j2 rfl rfl Try.underlying26 (.int .i64 0) 8 info3 rfl (by decide) (by omega) 0 (ok := fun _ => True) (okp := fun _ => True) rfl (fun _ hk => hk) trivial (ua) (Nat.le_trans (Nat.mul_le_mul_right _ (ua : j2.toNat ≤ 35184372088832)) (by omega)) (Below.refl _ _) (Nat.le_refl _) ?_; intro v119 w32 ho33 hb hg_ hnew_; clear hg_ hnew_; (first | rw [← jx.out] at ho33 | (simp only [Int.reduceToNat] at ho33; rw [← jx.out] at ho33)); replace j0 := Aside0.mk (Kd.R_below (ur j0) hb); have jg := Aside0.mk (Kd.R_lower (Kd.R_new' (Kd.R_new' ho33 (Kd.R_lt (ur jb))) (Kd.R_lt (ur jc))) (below_size (uB1 HB ja.out))); replace jb := Aside0.mk (Kd.R_elder' (ur jb) (Kd.R_base ho33) hb); replace jc := Aside0.mk (Kd.R_elder' (ur jc) (Kd.R_base ho33) hb); replace j1 := bb j1 hb; replace HB := Aside0.mk (below_step (uB1 HB ja.out) hb); clear hb ho33; obtain ⟨jX, jY, jN⟩ := Kd.R_slice jg.out; (first | subst jN | (injection jN with f1_ f2_ f3_; have f4_ := f1_.symm; have f5_ := f3_.symm; clear f1_ f2_ f3_; subst f4_; subst f5_)); refine hK.out _ _ (b2_ j1) (fun hHeld => ?_); clear hK K; refine nz ?_
          refine qo HT_ 16 (fun K hK => ?_); refine goes_ Try.func53 (by kernel_rfl) rfl #[.agg #[.int .i64 j2, .slice Ao9 j4.length co9], .slice jX jC.length jY, .int .i64 j8, .int .i64 j3] (by rfl) rfl rfl ul ?_; with_reducible refine (impl_PartNear.calls kj4 j2 _ _ j4 _ _ jC j8 j3 jl _ ?side1 ?side2 ?side3 ?side4 A28.out).mono ?_
          (case side1 => exact uD (Kd.R_reads' j0.out).2.2); (case side2 => exact (Kd.R_reads' j0.out).2.1); (case side3 => exact uD (Kd.R_reads' jg.out).2.2); (case side4 => exact (Kd.R_reads' jg.out).2.1); rintro e w35 ⟨rfl, hb⟩; refine ⟨_, rfl, ?_⟩; replace jb := Aside0.mk (Kd.R_below (ur jb) hb); replace j0 := Aside0.mk (Kd.R_below (ur j0) hb); replace jc := Aside0.mk (Kd.R_below (ur jc) hb); replace jg := Aside0.mk (Kd.R_below (ur jg) hb); replace j1 := bb j1 hb; replace HB := Aside0.mk (below_step (uB1 HB ja.out) hb); (try clear hb); (try clear hb2); (try clear hk); (try clear hi); refine hK.out _ _ (b2_ j1) (fun hHeld => ?_); clear hK K; refine nz ?_
          refine qz HT_ 17 ?_; refine qz HT_ 18 ?_; refine qz HT_ 19 ?_; refine done_ (done_of HT_.out (by kernel_rfl)) ?_; try go_wp2
          go_ret; exact ⟨by first | rfl | (simp [errW_none, errW_some] <;> rfl) | (simp [*, errW_none, errW_some] <;> rfl) | exact congrArg (fun b_ => Ending.returned (Value.bool b_)) HE_.out, uB1 HB ja.out⟩
         ·
          rw [if_neg c27] at H; exact absurd H (by simp)
        ·
         rw [if_neg c26] at H; exact absurd H (by simp)
       ·
        rw [if_neg c25] at H; obtain ⟨jJ, jK⟩ := dQ c25; exact absurd H (by simp)
      ·
       rw [if_neg c24] at H; exact absurd H (by simp)
     ·
      rw [if_neg c23] at H; exact absurd H (by simp)

/-- THE ONE PURE STATEMENT of laws_FnPartNear: yours. -/
def laws_FnPartNear.Pure : Prop := ∀ (l0 : List Int), l0.length ≤ maxLen → l0.length * 1 ≤ 140737488351232 → (∀ x ∈ l0, (Lit.int .u8 x).wf = true) → ∃ k, laws_FnPartNear.f k l0 = some true
theorem laws_FnPartNear.walk (P : laws_FnPartNear.Pure) (a0 : Option Addr) (len0 cap0 : Nat) (z0 : List Int) (w : World) (w0 : (a0 = none ∧ len0 = 0 ∧ cap0 = 0 ∧ z0 = []) ∨ ∃ x, a0 = some x ∧ len0 ≤ cap0 ∧ cap0 ≤ maxLen ∧ z0.length = cap0 ∧ (∀ i, i < z0.length → w.cell? (x.add i) = some (.int .u8 (z0.getD i 0))) ∧ ∀ n ∈ z0, (Lit.int .u8 n).wf = true) (y0 : len0 * 1 ≤ 140737488351232) :
  Calls Try.prog 13 #[.slice a0 len0 cap0] w fun e w' => e = .returned (.bool true) ∧ Below w.heap.size w w' := by
 obtain ⟨l0, rfl, hr0, hm0, hw0, hc0⟩ := ReadsInt.ofRowC w0
 obtain ⟨k, h⟩ := P l0 hm0 y0 hw0
 refine (laws_FnPartNear.calls k _ _ l0 w (Kd.C_of_reads (d := (0 : Int)) (h1 := fun _ => rfl) hr0) hc0 h).mono ?_
 rintro e w' ⟨rfl, hd⟩
 exact ⟨rfl, hd⟩

end Go.Proofs.Ytblpdfgplifccaa.P
