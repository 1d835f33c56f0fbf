-- written for this claim by a program (wip/gen/myprint.py over the print tool). Not trusted: Lean checks it.
import Derived.Test.YtdlaaccnaokdnaaPx0
import Derived.Test.YtdlaaccnaokdnaaHUp
import Derived.Test.YtdlaaccnaokdnaaGBase
import Derived.Test.YtdlaaccnaokdnaaHNet
namespace Go.Proofs.Ytdlaaccnaokdnaa.P
open Go.RowKit Go.Proofs.YtdlaaccnaokdnaaV.PrintWords Go.Proofs.YtdlaaccnaokdnaaV.PrintLast
set_option linter.unusedVariables false
set_option linter.unusedSimpArgs false

/-! ### impl_WalkOk: function 89 -/
mutual
def impl_WalkOk.j0 : Nat → List Int → Bool → Int → List (S61) → Option (Bool)
 | 0, _, _, _, _ => none
 | k + 1, x1, x14, x102000, x102001 => if x14 = true then (some false) else (impl_WalkOk.l0 k x1 x1 (x1.length : Int) 0 x102000 x102001)
def impl_WalkOk.l0 : Nat → List Int → List Int → Int → Int → Int → List (S61) → Option (Bool)
 | 0, _, _, _, _, _, _ => none
 | k + 1, x1, x15, x16, x17, x102000, x102001 => if x17 < x16 then (if 0 ≤ x17 then (if x17 < (x15.length : Int) then ((impl_within.f (rd x15 x17) 0 (wrap64 ((x102001.length : Int) - 1))).bind fun t104 => (if t104 = true then (if x17 > 0 then (if 0 ≤ (wrap64 (x17 - 1)) then (if (wrap64 (x17 - 1)) < (x1.length : Int) then (if 0 ≤ (rd x1 (wrap64 (x17 - 1))) then (if (rd x1 (wrap64 (x17 - 1))) < (x102001.length : Int) then (if 0 ≤ (rd x15 x17) then (if (rd x15 x17) < (x102001.length : Int) then (if ((rd_T61 x102001 (rd x1 (wrap64 (x17 - 1)))).f1) = ((rd_T61 x102001 (rd x15 x17)).f0) then (impl_WalkOk.l0 k x1 x15 x16 (wrap64 (x17 + 1)) x102000 x102001) else (some false)) else (none)) else (none)) else (none)) else (none)) else (none)) else (none)) else (impl_WalkOk.l0 k x1 x15 x16 (wrap64 (x17 + 1)) x102000 x102001)) else (some false))) else (none)) else (none)) else (some true)
end
def impl_WalkOk.f (k : Nat) (a0_0 : Int) (l0_1 : List (S61)) (l1 : List Int) : Option (Bool) := (impl_NetOk.f a0_0 l0_1).bind fun t102 => (if t102 = true then (impl_WalkOk.j0 k l1 (decide ((l1.length : Int) > 20)) a0_0 l0_1) else (impl_WalkOk.j0 k l1 true a0_0 l0_1))
def impl_WalkOk.T6 : Bool × List (List Nat × List Nat) := (true, [([], []), ([], []), ([1], [1]), ([2], [2]), ([3], [3]), ([0, 4], [0, 4]), ([5], [5]), ([6, 5], [6]), ([7], [7]), ([8, 7], [7, 8]), ([9, 7, 7], [7, 9]), ([10], [10]), ([11, 10], [10, 11]), ([10], [10]), ([10], [10]), ([14, 10], [10, 14]), ([13, 15, 10], [10, 13, 15]), ([16, 10], [10, 16]), ([12, 17, 10], [10, 12, 17]), ([18, 10], [10, 18]), ([19, 10], [10, 19]), ([10], [10]), ([21, 10], [10, 21]), ([10], [10]), ([22, 23, 10], [10, 22, 23]), ([24, 10], [10, 24]), ([25, 10], [10, 25]), ([20, 26, 10], [10, 20, 26]), ([10, 27, 7], [7, 10, 27]), ([7, 28], [7, 28])])
def impl_WalkOk.B6 : List Nat := [0, 0, 2, 6, 14, 31, 63, 127, 255, 511, 1023, 2047, 4095, 2047, 2047, 18431, 59391, 124927, 262143, 524287, 1048575, 2047, 2099199, 2047, 14682111, 31459327, 65013759, 134217727, 268435455, 536870911]
theorem impl_WalkOk.tab6 : rtab .any (opsOf Try.f89 6) = impl_WalkOk.T6 := by kernel_rfl
theorem impl_WalkOk.bits6 : waitsOk impl_WalkOk.T6.2 impl_WalkOk.B6 = true := by kernel_rfl
set_option maxHeartbeats 8000000 in
set_option maxRecDepth 100000 in
theorem impl_WalkOk.calls (k : Nat) (a0_0 : Int) (A0_1 : Option Addr) (c0_1 : Nat) (l0_1 : List (S61)) (A1 : Option Addr) (c1 : Nat) (l1 : List Int) (r : Bool) (w : World) (hr0_1 : Kd.C k61 w A0_1 l0_1.length l0_1) (hc0_1 : l0_1.length ≤ c0_1) (hr1 : Kd.C (Kd.int .i64) w A1 l1.length l1) (hc1 : l1.length ≤ c1) (h : impl_WalkOk.f k a0_0 l0_1 l1 = some r) :
  Calls Try.prog 89 #[.agg #[.int .i64 a0_0, .slice A0_1 l0_1.length c0_1], .slice A1 l1.length c1] w fun e w' => e = .returned (.bool r) ∧ Below w.heap.size w w' := by
 have hu35 := Try.underlying35
 have jv := Aside0.mk hr0_1
 have jH := Aside0.mk hc0_1
 clear hr0_1 hc0_1
 have HR1 := Aside0.mk hr1
 have HC1 := Aside0.mk hc1
 clear hr1 hc1
 have HB := Aside0.mk (Below.refl w.heap.size w)
 have H : ((impl_NetOk.f a0_0 l0_1).bind fun jG => (if jG = true then (impl_WalkOk.j0 k l1 (decide ((l1.length : Int) > 20)) a0_0 l0_1) else (impl_WalkOk.j0 k l1 true a0_0 l0_1))) = some r := h
 clear h
 have HC3 := Aside0.mk H
 clear H
 go_enter Try.func89, Try.ntmps89
 go_upto_region 1 with (((with_reducible refine gate_dst (N := 2) rfl ?_); refine be (cs := #[.int .i64 a0_0, .slice A0_1 l0_1.length c0_1]) (t := 35) ?_; intro jg hg w4 hbox hb; have j2 := Aside0.mk (hbox); have jZ := gz w hg (uB0 HB); have jf := gz w hg (uB0 HB); replace HB := Aside0.mk (below_step (uB0 HB) hb); clear hb hbox hg))
 go_cut [14] (fun v14 wc => ∃ (kq : Nat) (jD : Bool), v14 = .bool jD ∧ Aside0 (impl_WalkOk.j0 kq l1 jD a0_0 l0_1 = some r) ∧ Aside0 (kq ≤ k) ∧ Aside0 (wc.heap[jg]? = some (.cells #[.int .i64 a0_0, (.slice A0_1 l0_1.length c0_1)] 35 (0, 0))) ∧ Aside0 (Below w.heap.size w wc))
 case first =>
  have H := HC3.out; clear HC3; replace H := Option.bind_eq_some_iff.mp H; obtain ⟨jG, A50, H⟩ := H; replace H : (if jG = true then (impl_WalkOk.j0 k l1 (decide ((l1.length : Int) > 20)) a0_0 l0_1) else (impl_WalkOk.j0 k l1 true a0_0 l0_1)) = some r := H; have A5 := Aside0.mk A50; clear A50; by_cases c6 : jG = true
  ·
   subst c6; rw [if_pos rfl] at H; have H' := Aside0.mk H; clear H; obtain ⟨jR, jS, jT, jU⟩ := bc2 j2; go_wp2_with (((with_reducible refine gate_callee (f := 79) rfl ?_); refine goesL_ (some 8) rfl rfl Try.func79 (by kernel_rfl) rfl #[.agg #[.int .i64 a0_0, .slice A0_1 l0_1.length c0_1]] rfl ul ?_; (with_reducible refine (impl_NetOk.calls a0_0 _ _ l0_1 true _ ?side1 ?side2 A5.out).mono ?_); (case side1 => exact uC jv HB); (case side2 => exact jH.out); rintro e w8 ⟨rfl, hb⟩; refine ⟨_, rfl, ?_⟩; replace j2 := bb j2 hb; replace HB := Aside0.mk (below_step (uB1 HB jf.out) hb); (try clear hb))); go_meet
   case rel => exact ⟨_, (decide ((l1.length : Int) > 20)), ue, H', ⟨by first | omega | exact Nat.le_refl _⟩, ⟨ub j2⟩, ⟨uB1 HB jf.out⟩⟩
  ·
   replace c6 := Bool.eq_false_iff.mpr c6; subst c6; rw [if_neg (show ¬ (false = true) by decide)] at H; have H' := Aside0.mk H; clear H; obtain ⟨jV, jW, jX, jY⟩ := bc2 j2; go_wp2_with (((with_reducible refine gate_callee (f := 79) rfl ?_); refine goesL_ (some 8) rfl rfl Try.func79 (by kernel_rfl) rfl #[.agg #[.int .i64 a0_0, .slice A0_1 l0_1.length c0_1]] rfl ul ?_; (with_reducible refine (impl_NetOk.calls a0_0 _ _ l0_1 false _ ?side1 ?side2 A5.out).mono ?_); (case side1 => exact uC jv HB); (case side2 => exact jH.out); rintro e w10 ⟨rfl, hb⟩; refine ⟨_, rfl, ?_⟩; replace j2 := bb j2 hb; replace HB := Aside0.mk (below_step (uB1 HB jf.out) hb); (try clear hb))); go_meet
   case rel => exact ⟨_, (true), ue, H', ⟨by first | omega | exact Nat.le_refl _⟩, ⟨ub j2⟩, ⟨uB1 HB jf.out⟩⟩
 case rest =>
  clear HC3
  obtain ⟨kq, jD, rfl, HA, HJ2, j2, HB⟩ := hcut
  cases kq with
  | zero => exact absurd HA.out (by simp [impl_WalkOk.j0])
  | succ kj2 =>
   have H := HA.out; clear HA; simp only [impl_WalkOk.j0] at H; by_cases c11 : jD = true
   ·
    subst c11; rw [if_pos rfl] at H; obtain rfl := Option.some.inj H; go_wp2; go_ret; exact ⟨ux, uB1 HB jf.out⟩
   ·
    replace c11 := Bool.eq_false_iff.mpr c11; subst c11; rw [if_neg (show ¬ (false = true) by decide)] at H; have H' := Aside0.mk H; clear H; go_wp2; go_loopg [17] kj2 (fun kq v17 w' => ∃ (j0 : Int), v17 = .int .i64 j0 ∧ Aside0 (impl_WalkOk.l0 kq l1 l1 (l1.length : Int) j0 a0_0 l0_1 = some r) ∧ Aside0 (kq ≤ kj2) ∧ Aside0 (w'.heap[jg]? = some (.cells #[.int .i64 a0_0, (.slice A0_1 l0_1.length c0_1)] 35 (0, 0))) ∧ Aside0 (Below w.heap.size w w'))
    case atStart => exact ⟨(0), ue, H', ⟨Nat.le_refl _⟩, ⟨ub j2⟩, ⟨uB1 HB jf.out⟩⟩
    case round =>
     clear H'
     obtain ⟨j0, rfl, HA, HK2, j2, HB⟩ := hrel
     cases gk with
     | zero => exact absurd HA.out (by simp [impl_WalkOk.l0])
     | succ k2 =>
      have H := HA.out; clear HA; simp only [impl_WalkOk.l0] at H; by_cases c12 : j0 < (l1.length : Int)
      ·
       rw [if_pos c12] at H; have jL := dl c12; clear c12; by_cases c13 : 0 ≤ j0
       ·
        rw [if_pos c13] at H; have j00 := de c13; clear c13; by_cases c14 : j0 < (l1.length : Int)
        ·
         rw [if_pos c14] at H; have j01 := dl c14; clear c14; replace H := Option.bind_eq_some_iff.mp H; obtain ⟨jM, jN, H⟩ := H; replace H : (if jM = true then (if j0 > 0 then (if 0 ≤ (wrap64 (j0 - 1)) then (if (wrap64 (j0 - 1)) < (l1.length : Int) then (if 0 ≤ (rd l1 (wrap64 (j0 - 1))) then (if (rd l1 (wrap64 (j0 - 1))) < (l0_1.length : Int) then (if 0 ≤ (rd l1 j0) then (if (rd l1 j0) < (l0_1.length : Int) then (if ((rd_T61 l0_1 (rd l1 (wrap64 (j0 - 1)))).f1) = ((rd_T61 l0_1 (rd l1 j0)).f0) then (impl_WalkOk.l0 k2 l1 l1 (l1.length : Int) (wrap64 (j0 + 1)) a0_0 l0_1) else (some false)) else (none)) else (none)) else (none)) else (none)) else (none)) else (none)) else (impl_WalkOk.l0 k2 l1 l1 (l1.length : Int) (wrap64 (j0 + 1)) a0_0 l0_1)) else (some false)) = some r := H; have A15 := Aside0.mk jN; clear jN; by_cases c16 : jM = true
         ·
          subst c16; rw [if_pos rfl] at H; by_cases c17 : j0 > 0
          ·
           rw [if_pos c17] at H; have jO := dl c17; clear c17; obtain ⟨ji18, hji18⟩ : ∃ j_ : Int, (wrap64 (j0 - 1)) = j_ := ⟨_, rfl⟩
           replace H : (if 0 ≤ (ji18) then (if (ji18) < (l1.length : Int) then (if 0 ≤ (rd l1 (ji18)) then (if (rd l1 (ji18)) < (l0_1.length : Int) then (if 0 ≤ (rd l1 j0) then (if (rd l1 j0) < (l0_1.length : Int) then (if ((rd_T61 l0_1 (rd l1 (ji18))).f1) = ((rd_T61 l0_1 (rd l1 j0)).f0) then (impl_WalkOk.l0 k2 l1 l1 (l1.length : Int) (wrap64 (j0 + 1)) a0_0 l0_1) else (some false)) else (none)) else (none)) else (none)) else (none)) else (none)) else (none)) = some r := by first | (rw [hji18] at H; exact H) | (simp only [hji18] at H ⊢; exact H)
           have hji18w : (IntKind.i64.wrap (j0 - 1)) = ji18 := (i64_w _).trans hji18; by_cases c19 : 0 ≤ (ji18)
           ·
            rw [if_pos c19] at H; have j02 := de c19; clear c19; by_cases c20 : (ji18) < (l1.length : Int)
            ·
             rw [if_pos c20] at H; have j03 := dl c20; clear c20; by_cases c21 : 0 ≤ (rd l1 (ji18))
             ·
              rw [if_pos c21] at H; have j04 := de c21; clear c21; by_cases c22 : (rd l1 (ji18)) < (l0_1.length : Int)
              ·
               rw [if_pos c22] at H; have j05 := dl c22; clear c22; by_cases c23 : 0 ≤ (rd l1 j0)
               ·
                rw [if_pos c23] at H; have j06 := de c23; clear c23; by_cases c24 : (rd l1 j0) < (l0_1.length : Int)
                ·
                 rw [if_pos c24] at H; have j07 := dl c24; clear c24; by_cases c25 : ((rd_T61 l0_1 (rd l1 (ji18))).f1) = ((rd_T61 l0_1 (rd l1 j0)).f0)
                 ·
                  rw [if_pos c25] at H; obtain ⟨jP, jQ⟩ := dq c25; clear c25; have H' := Aside0.mk H; clear H; have jh : 0 ≤ (j0 : Int) := ua; have ji : j0 < (l1.length : Int) := ua; obtain ⟨ju, jw, j3⟩ := Kd.at_int HR1.out j0 jh ji
                  cases jw
                  replace j3 := uc HB j3; replace jh := eq_true jh; replace ji := eq_true ji; try go_wp2
                  replace j2 := Aside0.mk (blk_drew j2.out); replace HB := Aside0.mk (below_drew1 HB.out); have jx : 0 ≤ ((ji18) : Int) := ua; have jy : (ji18) < (l1.length : Int) := ua; obtain ⟨jE, jI, j4⟩ := Kd.at_int HR1.out (ji18) jx jy; have jj := j4; obtain rfl : ju = jE := (by injection jI)
                  replace j4 := uc HB j4; replace jx := eq_true jx; replace jy := eq_true jy; have jz : 0 ≤ ((rd l1 (ji18)) : Int) := ua; have jA : (rd l1 (ji18)) < (l0_1.length : Int) := ua; obtain ⟨j1, jJ, j5, j6, j7, j8, j9⟩ := at_T61 jv.out (rd l1 (ji18)) jz jA; have jk := j9; have jl := j8; have jm := j7; have jn := j6; have jo := j5
                  cases jJ
                  replace j5 := uc HB j5; replace j6 := uc HB j6; replace j7 := uc HB j7; replace j8 := uc HB j8; replace j9 := uc HB j9; replace jz := eq_true jz; replace jA := eq_true jA; have jB : 0 ≤ ((rd l1 j0) : Int) := ua; have jC : (rd l1 j0) < (l0_1.length : Int) := ua; obtain ⟨jF, jK, ja, jb, jc, jd, je⟩ := at_T61 jv.out (rd l1 j0) jB jC; have jp := je; have jq := jd; have jr := jc; have js := jb; have jt := ja; obtain rfl : j1 = jF := (by injection jK)
                  replace ja := uc HB ja; replace jb := uc HB jb; replace jc := uc HB jc; replace jd := uc HB jd; replace je := uc HB je; replace jB := eq_true jB; replace jC := eq_true jC; refine start_ (n := 30) (S := fun w' => w'.cell? ⟨jg, 0, none⟩ = some (.int .i64 a0_0) ∧ w'.cell? ⟨jg, 1, none⟩ = some (.slice (some j1) l0_1.length c0_1) ∧ w'.cell? (ju.add ((ji18)).toNat) = some (.int .i64 (rd l1 (ji18))) ∧ w'.cell? (j1.add (((rd l1 (ji18))).toNat * 5)) = some (.int .i64 ((rd_T61 l0_1 (rd l1 (ji18))).f0)) ∧ w'.cell? ⟨(j1.add (((rd l1 (ji18))).toNat * 5)).block, (j1.add (((rd l1 (ji18))).toNat * 5)).off + 1, none⟩ = some (.int .i64 ((rd_T61 l0_1 (rd l1 (ji18))).f1)) ∧ w'.cell? ⟨(j1.add (((rd l1 (ji18))).toNat * 5)).block, (j1.add (((rd l1 (ji18))).toNat * 5)).off + 2, none⟩ = some (.int .i64 ((rd_T61 l0_1 (rd l1 (ji18))).f2)) ∧ w'.cell? ⟨(j1.add (((rd l1 (ji18))).toNat * 5)).block, (j1.add (((rd l1 (ji18))).toNat * 5)).off + 3, none⟩ = some (.int .i64 ((rd_T61 l0_1 (rd l1 (ji18))).f3)) ∧ w'.cell? ⟨(j1.add (((rd l1 (ji18))).toNat * 5)).block, (j1.add (((rd l1 (ji18))).toNat * 5)).off + 4, none⟩ = some (.int .i64 ((rd_T61 l0_1 (rd l1 (ji18))).f4)) ∧ w'.cell? (j1.add (((rd l1 j0)).toNat * 5)) = some (.int .i64 ((rd_T61 l0_1 (rd l1 j0)).f0)) ∧ w'.cell? ⟨(j1.add (((rd l1 j0)).toNat * 5)).block, (j1.add (((rd l1 j0)).toNat * 5)).off + 1, none⟩ = some (.int .i64 ((rd_T61 l0_1 (rd l1 j0)).f1)) ∧ w'.cell? ⟨(j1.add (((rd l1 j0)).toNat * 5)).block, (j1.add (((rd l1 j0)).toNat * 5)).off + 2, none⟩ = some (.int .i64 ((rd_T61 l0_1 (rd l1 j0)).f2)) ∧ w'.cell? ⟨(j1.add (((rd l1 j0)).toNat * 5)).block, (j1.add (((rd l1 j0)).toNat * 5)).off + 3, none⟩ = some (.int .i64 ((rd_T61 l0_1 (rd l1 j0)).f3)) ∧ w'.cell? ⟨(j1.add (((rd l1 j0)).toNat * 5)).block, (j1.add (((rd l1 j0)).toNat * 5)).off + 4, none⟩ = some (.int .i64 ((rd_T61 l0_1 (rd l1 j0)).f4))) (ds := []) (zt 30 0) (by kernel_rfl) rfl (by kernel_rfl) (b2x j2 ⟨(ud HB jj), (ud HB jo), (ud HB jn), (ud HB jm), (ud HB jl), (ud HB jk), (ud HB jt), (ud HB js), (ud HB jr), (ud HB jq), (ud HB jp)⟩) (fun hHeld => ?_); refine with_tabW impl_WalkOk.tab6 impl_WalkOk.bits6 (fun HT_ HW_ => ?_); generalize wr.drew = w26 at j2 HB j4 j5 j6 j7 j8 j9 ja jb jc jd je hHeld ⊢; refine qz HT_ 0 ?_; refine qz HT_ 1 ?_; refine qt HT_ HW_ hHeld 2 ?_; refine qz HT_ 3 ?_; refine qz HT_ 4 ?_; refine qo HT_ 5 (fun K hK => ?_); refine goes_ Try.func96 (by kernel_rfl) rfl #[.int .i64 (rd l1 j0), .int .i64 0, .int .i64 (wrap64 ((l0_1.length : Int) - 1))] (by rfl) rfl rfl ul ?_; with_reducible refine (impl_within.calls (rd l1 j0) 0 (wrap64 ((l0_1.length : Int) - 1)) true _ A15.out).mono ?_
                  rintro e w' ⟨rfl, ⟨nd, rfl⟩⟩; refine ⟨_, rfl, ?_⟩; refine hK.out _ _ (b2x j2 ⟨(ud HB jj), (ud HB jo), (ud HB jn), (ud HB jm), (ud HB jl), (ud HB jk), (ud HB jt), (ud HB js), (ud HB jr), (ud HB jq), (ud HB jp)⟩) (fun hHeld => ?_); clear hK K; refine nz ?_
                  refine qz HT_ 6 ?_; refine qz HT_ 7 ?_; refine qz HT_ 8 ?_; refine qz HT_ 9 ?_; refine qz HT_ 10 ?_; refine qz HT_ 11 ?_; refine qz HT_ 13 ?_; refine qz HT_ 14 ?_; refine qz HT_ 15 ?_; refine qz HT_ 16 ?_; refine qz HT_ 21 ?_; refine qz HT_ 23 ?_; refine qt HT_ HW_ hHeld 12 ?_; refine qt HT_ HW_ hHeld 17 ?_; refine qz HT_ 18 ?_; refine qz HT_ 19 ?_; refine qt HT_ HW_ hHeld 20 ?_; refine qt HT_ HW_ hHeld 22 ?_; refine qz HT_ 24 ?_; refine qz HT_ 25 ?_; refine qt HT_ HW_ hHeld 26 ?_; refine qz HT_ 27 ?_; refine qz HT_ 28 ?_; refine qz HT_ 29 ?_; refine done_ (done_of HT_.out (by kernel_rfl)) ?_; try go_wp2
                  go_roundg k2
                  case measure => have := HJ2.out; have := HK2.out; omega
                  case rel => exact ⟨(wrap64 (j0 + 1)), ue, H', ⟨by have := HJ2.out; have := HK2.out; omega⟩, ⟨ub j2⟩, ⟨uB1 HB jf.out⟩⟩
                 ·
                  rw [if_neg c25] at H; obtain ⟨jP, jQ⟩ := dQ c25; obtain rfl := Option.some.inj H; have jh : 0 ≤ (j0 : Int) := ua; have ji : j0 < (l1.length : Int) := ua; obtain ⟨ju, jw, j3⟩ := Kd.at_int HR1.out j0 jh ji
                  cases jw
                  replace j3 := uc HB j3; replace jh := eq_true jh; replace ji := eq_true ji; try go_wp2
                  replace j2 := Aside0.mk (blk_drew j2.out); replace HB := Aside0.mk (below_drew1 HB.out); have jx : 0 ≤ ((ji18) : Int) := ua; have jy : (ji18) < (l1.length : Int) := ua; obtain ⟨jE, jI, j4⟩ := Kd.at_int HR1.out (ji18) jx jy; have jj := j4; obtain rfl : ju = jE := (by injection jI)
                  replace j4 := uc HB j4; replace jx := eq_true jx; replace jy := eq_true jy; have jz : 0 ≤ ((rd l1 (ji18)) : Int) := ua; have jA : (rd l1 (ji18)) < (l0_1.length : Int) := ua; obtain ⟨j1, jJ, j5, j6, j7, j8, j9⟩ := at_T61 jv.out (rd l1 (ji18)) jz jA; have jk := j9; have jl := j8; have jm := j7; have jn := j6; have jo := j5
                  cases jJ
                  replace j5 := uc HB j5; replace j6 := uc HB j6; replace j7 := uc HB j7; replace j8 := uc HB j8; replace j9 := uc HB j9; replace jz := eq_true jz; replace jA := eq_true jA; have jB : 0 ≤ ((rd l1 j0) : Int) := ua; have jC : (rd l1 j0) < (l0_1.length : Int) := ua; obtain ⟨jF, jK, ja, jb, jc, jd, je⟩ := at_T61 jv.out (rd l1 j0) jB jC; have jp := je; have jq := jd; have jr := jc; have js := jb; have jt := ja; obtain rfl : j1 = jF := (by injection jK)
                  replace ja := uc HB ja; replace jb := uc HB jb; replace jc := uc HB jc; replace jd := uc HB jd; replace je := uc HB je; replace jB := eq_true jB; replace jC := eq_true jC; refine start_ (n := 30) (S := fun w' => w'.cell? ⟨jg, 0, none⟩ = some (.int .i64 a0_0) ∧ w'.cell? ⟨jg, 1, none⟩ = some (.slice (some j1) l0_1.length c0_1) ∧ w'.cell? (ju.add ((ji18)).toNat) = some (.int .i64 (rd l1 (ji18))) ∧ w'.cell? (j1.add (((rd l1 (ji18))).toNat * 5)) = some (.int .i64 ((rd_T61 l0_1 (rd l1 (ji18))).f0)) ∧ w'.cell? ⟨(j1.add (((rd l1 (ji18))).toNat * 5)).block, (j1.add (((rd l1 (ji18))).toNat * 5)).off + 1, none⟩ = some (.int .i64 ((rd_T61 l0_1 (rd l1 (ji18))).f1)) ∧ w'.cell? ⟨(j1.add (((rd l1 (ji18))).toNat * 5)).block, (j1.add (((rd l1 (ji18))).toNat * 5)).off + 2, none⟩ = some (.int .i64 ((rd_T61 l0_1 (rd l1 (ji18))).f2)) ∧ w'.cell? ⟨(j1.add (((rd l1 (ji18))).toNat * 5)).block, (j1.add (((rd l1 (ji18))).toNat * 5)).off + 3, none⟩ = some (.int .i64 ((rd_T61 l0_1 (rd l1 (ji18))).f3)) ∧ w'.cell? ⟨(j1.add (((rd l1 (ji18))).toNat * 5)).block, (j1.add (((rd l1 (ji18))).toNat * 5)).off + 4, none⟩ = some (.int .i64 ((rd_T61 l0_1 (rd l1 (ji18))).f4)) ∧ w'.cell? (j1.add (((rd l1 j0)).toNat * 5)) = some (.int .i64 ((rd_T61 l0_1 (rd l1 j0)).f0)) ∧ w'.cell? ⟨(j1.add (((rd l1 j0)).toNat * 5)).block, (j1.add (((rd l1 j0)).toNat * 5)).off + 1, none⟩ = some (.int .i64 ((rd_T61 l0_1 (rd l1 j0)).f1)) ∧ w'.cell? ⟨(j1.add (((rd l1 j0)).toNat * 5)).block, (j1.add (((rd l1 j0)).toNat * 5)).off + 2, none⟩ = some (.int .i64 ((rd_T61 l0_1 (rd l1 j0)).f2)) ∧ w'.cell? ⟨(j1.add (((rd l1 j0)).toNat * 5)).block, (j1.add (((rd l1 j0)).toNat * 5)).off + 3, none⟩ = some (.int .i64 ((rd_T61 l0_1 (rd l1 j0)).f3)) ∧ w'.cell? ⟨(j1.add (((rd l1 j0)).toNat * 5)).block, (j1.add (((rd l1 j0)).toNat * 5)).off + 4, none⟩ = some (.int .i64 ((rd_T61 l0_1 (rd l1 j0)).f4))) (ds := []) (zt 30 0) (by kernel_rfl) rfl (by kernel_rfl) (b2x j2 ⟨(ud HB jj), (ud HB jo), (ud HB jn), (ud HB jm), (ud HB jl), (ud HB jk), (ud HB jt), (ud HB js), (ud HB jr), (ud HB jq), (ud HB jp)⟩) (fun hHeld => ?_); refine with_tabW impl_WalkOk.tab6 impl_WalkOk.bits6 (fun HT_ HW_ => ?_); generalize wr.drew = w27 at j2 HB j4 j5 j6 j7 j8 j9 ja jb jc jd je hHeld ⊢; refine qz HT_ 0 ?_; refine qz HT_ 1 ?_; refine qt HT_ HW_ hHeld 2 ?_; refine qz HT_ 3 ?_; refine qz HT_ 4 ?_; refine qo HT_ 5 (fun K hK => ?_); refine goes_ Try.func96 (by kernel_rfl) rfl #[.int .i64 (rd l1 j0), .int .i64 0, .int .i64 (wrap64 ((l0_1.length : Int) - 1))] (by rfl) rfl rfl ul ?_; with_reducible refine (impl_within.calls (rd l1 j0) 0 (wrap64 ((l0_1.length : Int) - 1)) true _ A15.out).mono ?_
                  rintro e w' ⟨rfl, ⟨nd, rfl⟩⟩; refine ⟨_, rfl, ?_⟩; refine hK.out _ _ (b2x j2 ⟨(ud HB jj), (ud HB jo), (ud HB jn), (ud HB jm), (ud HB jl), (ud HB jk), (ud HB jt), (ud HB js), (ud HB jr), (ud HB jq), (ud HB jp)⟩) (fun hHeld => ?_); clear hK K; refine nz ?_
                  refine qz HT_ 6 ?_; refine qz HT_ 7 ?_; refine qz HT_ 8 ?_; refine qz HT_ 9 ?_; refine qz HT_ 10 ?_; refine qz HT_ 11 ?_; refine qz HT_ 13 ?_; refine qz HT_ 14 ?_; refine qz HT_ 15 ?_; refine qz HT_ 16 ?_; refine qz HT_ 21 ?_; refine qz HT_ 23 ?_; refine qt HT_ HW_ hHeld 12 ?_; refine qt HT_ HW_ hHeld 17 ?_; refine qz HT_ 18 ?_; refine qz HT_ 19 ?_; refine qt HT_ HW_ hHeld 20 ?_; refine qt HT_ HW_ hHeld 22 ?_; refine qz HT_ 24 ?_; refine qz HT_ 25 ?_; refine qt HT_ HW_ hHeld 26 ?_; refine qz HT_ 27 ?_; refine qz HT_ 28 ?_; refine qz HT_ 29 ?_; refine done_ (done_of HT_.out (by kernel_rfl)) ?_; try go_wp2
                  go_ret; exact ⟨by first | rfl | (simp [errW_none, errW_some] <;> rfl) | (simp only [← hji18]; first | rfl | (simp [errW_none, errW_some] <;> rfl)) | (simp [*, errW_none, errW_some] <;> rfl), uB1 HB jf.out⟩
                ·
                 rw [if_neg c24] at H; exact absurd H (by simp)
               ·
                rw [if_neg c23] at H; exact absurd H (by simp)
              ·
               rw [if_neg c22] at H; exact absurd H (by simp)
             ·
              rw [if_neg c21] at H; exact absurd H (by simp)
            ·
             rw [if_neg c20] at H; exact absurd H (by simp)
           ·
            rw [if_neg c19] at H; exact absurd H (by simp)
          ·
           rw [if_neg c17] at H; have jO := DL c17; clear c17; have H' := Aside0.mk H; clear H; have jh : 0 ≤ (j0 : Int) := ua; have ji : j0 < (l1.length : Int) := ua; obtain ⟨ju, jw, j3⟩ := Kd.at_int HR1.out j0 jh ji
           cases jw
           replace j3 := uc HB j3; replace jh := eq_true jh; replace ji := eq_true ji; try go_wp2
           replace j2 := Aside0.mk (blk_drew j2.out); replace HB := Aside0.mk (below_drew1 HB.out); refine start_ (n := 30) (S := fun w' => w'.cell? ⟨jg, 0, none⟩ = some (.int .i64 a0_0) ∧ w'.cell? ⟨jg, 1, none⟩ = some (.slice A0_1 l0_1.length c0_1)) (ds := []) (zt 30 0) (by kernel_rfl) rfl (by kernel_rfl) (b2_ j2) (fun hHeld => ?_); refine with_tabW impl_WalkOk.tab6 impl_WalkOk.bits6 (fun HT_ HW_ => ?_); generalize wr.drew = w28 at j2 HB hHeld ⊢; refine qz HT_ 0 ?_; refine qz HT_ 1 ?_; refine qt HT_ HW_ hHeld 2 ?_; refine qz HT_ 3 ?_; refine qz HT_ 4 ?_; refine qo HT_ 5 (fun K hK => ?_); refine goes_ Try.func96 (by kernel_rfl) rfl #[.int .i64 (rd l1 j0), .int .i64 0, .int .i64 (wrap64 ((l0_1.length : Int) - 1))] (by rfl) rfl rfl ul ?_; with_reducible refine (impl_within.calls (rd l1 j0) 0 (wrap64 ((l0_1.length : Int) - 1)) true _ A15.out).mono ?_
           rintro e w' ⟨rfl, ⟨nd, rfl⟩⟩; refine ⟨_, rfl, ?_⟩; refine hK.out _ _ (b2_ j2) (fun hHeld => ?_); clear hK K; refine nz ?_
           refine qz HT_ 6 ?_; refine qz HT_ 7 ?_; refine qz HT_ 8 ?_; refine qz HT_ 9 ?_; refine qz HT_ 10 ?_; refine qn HT_ 11 ?_; refine qn HT_ 12 ?_; refine qn HT_ 13 ?_; refine qn HT_ 14 ?_; refine qn HT_ 15 ?_; refine qn HT_ 16 ?_; refine qn HT_ 17 ?_; refine qn HT_ 18 ?_; refine qn HT_ 19 ?_; refine qn HT_ 20 ?_; refine qn HT_ 21 ?_; refine qn HT_ 22 ?_; refine qn HT_ 23 ?_; refine qn HT_ 24 ?_; refine qn HT_ 25 ?_; refine qn HT_ 26 ?_; refine qn HT_ 27 ?_; refine qz HT_ 28 ?_; refine qz HT_ 29 ?_; refine done_ (done_of HT_.out (by kernel_rfl)) ?_; try go_wp2
           go_roundg k2
           case measure => have := HJ2.out; have := HK2.out; omega
           case rel => exact ⟨(wrap64 (j0 + 1)), ue, H', ⟨by have := HJ2.out; have := HK2.out; omega⟩, ⟨ub j2⟩, ⟨uB1 HB jf.out⟩⟩
         ·
          replace c16 := Bool.eq_false_iff.mpr c16; subst c16; rw [if_neg (show ¬ (false = true) by decide)] at H; obtain rfl := Option.some.inj H; have jh : 0 ≤ (j0 : Int) := ua; have ji : j0 < (l1.length : Int) := ua; obtain ⟨ju, jw, j3⟩ := Kd.at_int HR1.out j0 jh ji
          cases jw
          replace j3 := uc HB j3; replace jh := eq_true jh; replace ji := eq_true ji; try go_wp2
          replace j2 := Aside0.mk (blk_drew j2.out); replace HB := Aside0.mk (below_drew1 HB.out); refine start_ (n := 30) (S := fun w' => w'.cell? ⟨jg, 0, none⟩ = some (.int .i64 a0_0) ∧ w'.cell? ⟨jg, 1, none⟩ = some (.slice A0_1 l0_1.length c0_1)) (ds := []) (zt 30 0) (by kernel_rfl) rfl (by kernel_rfl) (b2_ j2) (fun hHeld => ?_); refine with_tabW impl_WalkOk.tab6 impl_WalkOk.bits6 (fun HT_ HW_ => ?_); generalize wr.drew = w29 at j2 HB hHeld ⊢; refine qz HT_ 0 ?_; refine qz HT_ 1 ?_; refine qt HT_ HW_ hHeld 2 ?_; refine qz HT_ 3 ?_; refine qz HT_ 4 ?_; refine qo HT_ 5 (fun K hK => ?_); refine goes_ Try.func96 (by kernel_rfl) rfl #[.int .i64 (rd l1 j0), .int .i64 0, .int .i64 (wrap64 ((l0_1.length : Int) - 1))] (by rfl) rfl rfl ul ?_; with_reducible refine (impl_within.calls (rd l1 j0) 0 (wrap64 ((l0_1.length : Int) - 1)) false _ A15.out).mono ?_
          rintro e w' ⟨rfl, ⟨nd, rfl⟩⟩; refine ⟨_, rfl, ?_⟩; refine hK.out _ _ (b2_ j2) (fun hHeld => ?_); clear hK K; refine nz ?_
          refine qz HT_ 6 ?_; refine qz HT_ 7 ?_; refine qn HT_ 8 ?_; refine qn HT_ 9 ?_; refine qn HT_ 10 ?_; refine qn HT_ 11 ?_; refine qn HT_ 12 ?_; refine qn HT_ 13 ?_; refine qn HT_ 14 ?_; refine qn HT_ 15 ?_; refine qn HT_ 16 ?_; refine qn HT_ 17 ?_; refine qn HT_ 18 ?_; refine qn HT_ 19 ?_; refine qn HT_ 20 ?_; refine qn HT_ 21 ?_; refine qn HT_ 22 ?_; refine qn HT_ 23 ?_; refine qn HT_ 24 ?_; refine qn HT_ 25 ?_; refine qn HT_ 26 ?_; refine qn HT_ 27 ?_; refine qn HT_ 28 ?_; refine qz HT_ 29 ?_; refine done_ (done_of HT_.out (by kernel_rfl)) ?_; try go_wp2
          go_ret; exact ⟨ux, uB1 HB jf.out⟩
        ·
         rw [if_neg c14] at H; exact absurd H (by simp)
       ·
        rw [if_neg c13] at H; exact absurd H (by simp)
      ·
       rw [if_neg c12] at H; have jL := DL c12; clear c12; obtain rfl := Option.some.inj H; go_wp2; go_ret; exact ⟨ux, uB1 HB jf.out⟩

end Go.Proofs.Ytdlaaccnaokdnaa.P
