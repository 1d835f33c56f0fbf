-- several texts of this claim in one
import Derived.Test.YtblpdfgplifccaaPx0
import Derived.Test.YtblpdfgplifccaaHUp
import Derived.Test.YtblpdfgplifccaaPFSpecL30Open
-- printed for this claim by a program
namespace Go.Proofs.Ytblpdfgplifccaa.P
open Go.RowKit Go.Proofs.YtblpdfgplifccaaV.PrintWords Go.Proofs.YtblpdfgplifccaaV.PrintLast
set_option linter.unusedVariables false
set_option linter.unusedSimpArgs false

/-! ### spec_l30Rd_pick: function 80 -/
def spec_l30Rd_pick.j0 : Nat → Int → Bool → List Int → Int → Option (Int × Int)
 | 0, _, _, _, _ => none
 | k + 1, x1, x24, x1000, x1001 => if x24 = true then (some (0, x1001)) else (if (wrap64 (x1001 - 1)) < (x1000.length : Int) then (if 0 ≤ (wrap64 (x1001 - 1)) then (if x1 = 0 then (none) else (some (Int.tmod (wrap64 (rd x1000 (wrap64 (x1001 - 1)))) x1, x1001))) else (none)) else (if (x1000.length : Int) = 0 then (none) else (if 0 ≤ (Int.tmod (wrap64 (x1001 - 1)) (x1000.length : Int)) then (if (Int.tmod (wrap64 (x1001 - 1)) (x1000.length : Int)) < (x1000.length : Int) then (if 0 ≤ (Int.tmod (wrap64 ((wrap64 ((wrap64 (x1001 - 1)) * 7)) + 3)) (x1000.length : Int)) then (if (Int.tmod (wrap64 ((wrap64 ((wrap64 (x1001 - 1)) * 7)) + 3)) (x1000.length : Int)) < (x1000.length : Int) then (if x1 = 0 then (none) else (some (Int.tmod (Go.bits .xor .i64 (wrap64 ((wrap64 ((wrap64 ((wrap64 ((wrap64 (rd x1000 (Int.tmod (wrap64 (x1001 - 1)) (x1000.length : Int)))) * 131)) + (wrap64 ((wrap64 (rd x1000 (Int.tmod (wrap64 ((wrap64 ((wrap64 (x1001 - 1)) * 7)) + 3)) (x1000.length : Int)))) * 1117)))) + (wrap64 ((wrap64 (x1001 - 1)) * 29)))) + (wrap64 ((wrap64 (Int.tdiv (wrap64 (x1001 - 1)) (x1000.length : Int))) * 53)))) (wrap64 (Int.tdiv (wrap64 ((wrap64 ((wrap64 ((wrap64 ((wrap64 (rd x1000 (Int.tmod (wrap64 (x1001 - 1)) (x1000.length : Int)))) * 131)) + (wrap64 ((wrap64 (rd x1000 (Int.tmod (wrap64 ((wrap64 ((wrap64 (x1001 - 1)) * 7)) + 3)) (x1000.length : Int)))) * 1117)))) + (wrap64 ((wrap64 (x1001 - 1)) * 29)))) + (wrap64 ((wrap64 (Int.tdiv (wrap64 (x1001 - 1)) (x1000.length : Int))) * 53)))) 64))) x1, x1001))) else (none)) else (none)) else (none)) else (none))))
def spec_l30Rd_pick.f (k : Nat) (s0_0 : List Int) (s0_1 : Int) (a1 : Int) : Option (Int × Int) := if a1 < 1 then (spec_l30Rd_pick.j0 k a1 true s0_0 (wrap64 (s0_1 + 1))) else (spec_l30Rd_pick.j0 k a1 ((s0_0.length : Int) == 0) s0_0 (wrap64 (s0_1 + 1)))
set_option maxHeartbeats 8000000 in
set_option maxRecDepth 100000 in
theorem spec_l30Rd_pick.calls (k : Nat) (g : Nat) (s0_0 : List Int) (s0_1 : Int) (a1 : Int) (r1 : Int) (r2 : Int) (w0 w : World) (hI : IsS91 w0 w g s0_0 s0_1) (hB : Below w0.heap.size w0 w) (h : spec_l30Rd_pick.f k s0_0 s0_1 a1 = some (r1, r2)) :
  Calls Try.prog 80 #[.pointer (some ⟨g, 0, none⟩), .int .i64 a1] w fun e w' => e = .returned (.int .i64 r1) ∧ IsS91 w0 w' g s0_0 r2 ∧ Below w0.heap.size w0 w' ∧ KeepBut w w' g none := by
 have HI0 := Aside0.mk hI
 have HK := Aside0.mk (KeepBut.refl w g none)
 have HL := Aside0.mk hB.size
 have HGL0 := Aside0.mk (IsS91.lt hI)
 clear hI
 have HW0 := Aside0.mk hB.size
 have HB := Aside0.mk hB
 clear hB
 have H : (if a1 < 1 then (spec_l30Rd_pick.j0 k a1 true s0_0 (wrap64 (s0_1 + 1))) else (spec_l30Rd_pick.j0 k a1 ((s0_0.length : Int) == 0) s0_0 (wrap64 (s0_1 + 1)))) = some (r1, r2) := h
 clear h
 have HC3 := Aside0.mk H
 clear H
 obtain ⟨ASz4_0, cSz4_0, HGz4, hgz4, HSz4_0⟩ := HI0.out
 have j5 := cellS91_0 HGz4
 have j6 := cellS91_1 HGz4
 have j7 := blk_frozen HGz4 1
 clear HGz4 hgz4
 go_enter Try.func80, Try.ntmps80
 go_upto_region 2 with (fail)
 repeat (go_quiet (fail); go_upto_region 2 with (fail))
 go_cut [24] (fun v24 wc => ∃ (kq : Nat) (j0 : Bool), v24 = .bool j0 ∧ Aside0 (spec_l30Rd_pick.j0 kq a1 j0 s0_0 (wrap64 (s0_1 + 1)) = some (r1, r2)) ∧ Aside0 (kq ≤ k) ∧ Aside0 (IsS91 w0 wc g s0_0 (wrap64 (s0_1 + 1))) ∧ Aside0 (KeepBut w wc g none) ∧ Aside0 (Below w0.heap.size w0 wc))
 case first =>
  have H := HC3.out; clear HC3; by_cases c5 : a1 < 1
  ·
   rw [if_pos c5] at H; have j4 := dl c5; clear c5; (first | rw [j4] | (simp only [i64_w, i32_w]; rw [j4]) | skip); have H' := Aside0.mk H; clear H; go_wp2
   repeat (go_quiet (fail); try go_wp2)
   go_meet
   case rel => exact ⟨_, (true), ue, H', ⟨by first | omega | exact Nat.le_refl _⟩, ⟨uI0 HI0⟩, ⟨uK0 HK⟩, ⟨uB1 HB (IsS91.ge HI0.out)⟩⟩
  ·
   rw [if_neg c5] at H; have j4 := DL c5; clear c5; (first | rw [j4] | (simp only [i64_w, i32_w]; rw [j4]) | skip); have H' := Aside0.mk H; clear H; obtain ⟨ASz6_0, cSz6_0, HGz6, hgz6, HSz6_0⟩ := HI0.out; have j8 := cellS91_0 HGz6; have j9 := cellS91_1 HGz6; have ja := blk_frozen HGz6 1; clear HGz6 hgz6; go_wp2
   repeat (go_quiet (fail); try go_wp2)
   go_meet
   case rel => exact ⟨_, (((s0_0.length : Int) == 0)), ue, H', ⟨by first | omega | exact Nat.le_refl _⟩, ⟨uI0 HI0⟩, ⟨uK0 HK⟩, ⟨uB1 HB (IsS91.ge HI0.out)⟩⟩
 case rest =>
  clear HC3; try clear p2
  (try clear c5); (try clear j4); (try clear p6); (try clear j5 j6); (try clear j8 j9); (try clear j7); (try clear ja)
  obtain ⟨kq, j0, rfl, HA, HJ2, HI0, HK, HB⟩ := hcut
  cases kq with
  | zero => exact absurd HA.out (by simp [spec_l30Rd_pick.j0])
  | succ kj2 =>
   have H := HA.out; clear HA; simp only [spec_l30Rd_pick.j0] at H; by_cases c7 : j0 = true
   ·
    subst c7; rw [if_pos rfl] at H; simp only [Option.some.injEq, Prod.mk.injEq] at H; obtain ⟨rfl, rfl⟩ := H; go_wp2
    repeat (go_quiet (fail); try go_wp2)
    go_ret; exact ⟨ux, uI0 HI0, uB1 HB (IsS91.ge HI0.out), uK0 HK⟩
   ·
    replace c7 := Bool.eq_false_iff.mpr c7; subst c7; rw [if_neg (show ¬ (false = true) by decide)] at H; by_cases c8 : (wrap64 ((wrap64 (s0_1 + 1)) - 1)) < (s0_0.length : Int)
    ·
     rw [if_pos c8] at H; have jh := dl c8; clear c8; obtain ⟨ji9, hji9⟩ : ∃ j_ : Int, (wrap64 ((wrap64 (s0_1 + 1)) - 1)) = j_ := ⟨_, rfl⟩
     replace H : (if 0 ≤ (ji9) then (if a1 = 0 then (none) else (some (Int.tmod (wrap64 (rd s0_0 (ji9))) a1, (wrap64 (s0_1 + 1))))) else (none)) = some (r1, r2) := by first | (rw [hji9] at H; exact H) | (simp only [hji9] at H ⊢; exact H)
     (try rw [hji9] at jh); have hji9w : (IntKind.i64.wrap ((wrap64 (s0_1 + 1)) - 1)) = ji9 := (i64_w _).trans hji9; by_cases c10 : 0 ≤ (ji9)
     ·
      rw [if_pos c10] at H; have jt := de c10; clear c10; by_cases c11 : a1 = 0
      ·
       rw [if_pos c11] at H; exact absurd H (by simp)
      ·
       rw [if_neg c11] at H; obtain ⟨ju, jv⟩ := dQ c11; simp only [Option.some.injEq, Prod.mk.injEq] at H; obtain ⟨rfl, rfl⟩ := H; obtain ⟨ASz12_0, cSz12_0, HGz12, hgz12, HSz12_0⟩ := HI0.out; have jk := cellS91_0 HGz12; have jl := cellS91_1 HGz12; have jm := blk_frozen HGz12 1; clear HGz12 hgz12; have jb : 0 ≤ ((ji9) : Int) := ua; have jc : (ji9) < (s0_0.length : Int) := ua; obtain ⟨jw, jq, j1⟩ := Kd.at_int HSz12_0 (ji9) jb jc
       cases jq
       replace j1 := pw_cell_below HB.out j1; replace jb := eq_true jb; replace jc := eq_true jc; go_wp2
       repeat (go_quiet (fail); try go_wp2)
       go_ret; exact ⟨by first | rfl | (simp [errW_none, errW_some] <;> rfl) | (simp only [← hji9]; first | rfl | (simp [errW_none, errW_some] <;> rfl)) | (simp [*, errW_none, errW_some] <;> rfl), uI0 HI0, uB1 HB (IsS91.ge HI0.out), uK0 HK⟩
     ·
      rw [if_neg c10] at H; exact absurd H (by simp)
    ·
     rw [if_neg c8] at H; have jh := DL c8; clear c8; by_cases c13 : (s0_0.length : Int) = 0
     ·
      rw [if_pos c13] at H; exact absurd H (by simp)
     ·
      rw [if_neg c13] at H; obtain ⟨jx, jy⟩ := dQ c13; have jz : ¬ (s0_0 = []) := fun h_ => c13 (by rw [h_]; rfl)
      obtain ⟨ji14, hji14⟩ : ∃ j_ : Int, (Int.tmod (wrap64 ((wrap64 (s0_1 + 1)) - 1)) (s0_0.length : Int)) = j_ := ⟨_, rfl⟩
      replace H : (if 0 ≤ (ji14) then (if (ji14) < (s0_0.length : Int) then (if 0 ≤ (Int.tmod (wrap64 ((wrap64 ((wrap64 ((wrap64 (s0_1 + 1)) - 1)) * 7)) + 3)) (s0_0.length : Int)) then (if (Int.tmod (wrap64 ((wrap64 ((wrap64 ((wrap64 (s0_1 + 1)) - 1)) * 7)) + 3)) (s0_0.length : Int)) < (s0_0.length : Int) then (if a1 = 0 then (none) else (some (Int.tmod (Go.bits .xor .i64 (wrap64 ((wrap64 ((wrap64 ((wrap64 ((wrap64 (rd s0_0 (ji14))) * 131)) + (wrap64 ((wrap64 (rd s0_0 (Int.tmod (wrap64 ((wrap64 ((wrap64 ((wrap64 (s0_1 + 1)) - 1)) * 7)) + 3)) (s0_0.length : Int)))) * 1117)))) + (wrap64 ((wrap64 ((wrap64 (s0_1 + 1)) - 1)) * 29)))) + (wrap64 ((wrap64 (Int.tdiv (wrap64 ((wrap64 (s0_1 + 1)) - 1)) (s0_0.length : Int))) * 53)))) (wrap64 (Int.tdiv (wrap64 ((wrap64 ((wrap64 ((wrap64 ((wrap64 (rd s0_0 (ji14))) * 131)) + (wrap64 ((wrap64 (rd s0_0 (Int.tmod (wrap64 ((wrap64 ((wrap64 ((wrap64 (s0_1 + 1)) - 1)) * 7)) + 3)) (s0_0.length : Int)))) * 1117)))) + (wrap64 ((wrap64 ((wrap64 (s0_1 + 1)) - 1)) * 29)))) + (wrap64 ((wrap64 (Int.tdiv (wrap64 ((wrap64 (s0_1 + 1)) - 1)) (s0_0.length : Int))) * 53)))) 64))) a1, (wrap64 (s0_1 + 1))))) else (none)) else (none)) else (none)) else (none)) = some (r1, r2) := by first | (rw [hji14] at H; exact H) | (simp only [hji14] at H ⊢; exact H)
      by_cases c15 : 0 ≤ (ji14)
      ·
       rw [if_pos c15] at H; have jA := de c15; clear c15; by_cases c16 : (ji14) < (s0_0.length : Int)
       ·
        rw [if_pos c16] at H; have jB := dl c16; clear c16; obtain ⟨ji17, hji17⟩ : ∃ j_ : Int, (Int.tmod (wrap64 ((wrap64 ((wrap64 ((wrap64 (s0_1 + 1)) - 1)) * 7)) + 3)) (s0_0.length : Int)) = j_ := ⟨_, rfl⟩
        replace H : (if 0 ≤ (ji17) then (if (ji17) < (s0_0.length : Int) then (if a1 = 0 then (none) else (some (Int.tmod (Go.bits .xor .i64 (wrap64 ((wrap64 ((wrap64 ((wrap64 ((wrap64 (rd s0_0 (ji14))) * 131)) + (wrap64 ((wrap64 (rd s0_0 (ji17))) * 1117)))) + (wrap64 ((wrap64 ((wrap64 (s0_1 + 1)) - 1)) * 29)))) + (wrap64 ((wrap64 (Int.tdiv (wrap64 ((wrap64 (s0_1 + 1)) - 1)) (s0_0.length : Int))) * 53)))) (wrap64 (Int.tdiv (wrap64 ((wrap64 ((wrap64 ((wrap64 ((wrap64 (rd s0_0 (ji14))) * 131)) + (wrap64 ((wrap64 (rd s0_0 (ji17))) * 1117)))) + (wrap64 ((wrap64 ((wrap64 (s0_1 + 1)) - 1)) * 29)))) + (wrap64 ((wrap64 (Int.tdiv (wrap64 ((wrap64 (s0_1 + 1)) - 1)) (s0_0.length : Int))) * 53)))) 64))) a1, (wrap64 (s0_1 + 1))))) else (none)) else (none)) = some (r1, r2) := by first | (rw [hji17] at H; exact H) | (simp only [hji17] at H ⊢; exact H)
        by_cases c18 : 0 ≤ (ji17)
        ·
         rw [if_pos c18] at H; have jC := de c18; clear c18; by_cases c19 : (ji17) < (s0_0.length : Int)
         ·
          rw [if_pos c19] at H; have jD := dl c19; clear c19; by_cases c20 : a1 = 0
          ·
           rw [if_pos c20] at H; exact absurd H (by simp)
          ·
           rw [if_neg c20] at H; obtain ⟨jE, jF⟩ := dQ c20; simp only [Option.some.injEq, Prod.mk.injEq] at H; obtain ⟨rfl, rfl⟩ := H; obtain ⟨ASz21_0, cSz21_0, HGz21, hgz21, HSz21_0⟩ := HI0.out; have jn := cellS91_0 HGz21; have jo := cellS91_1 HGz21; have jp := blk_frozen HGz21 1; clear HGz21 hgz21; have jd : 0 ≤ ((ji14) : Int) := ua; have je : (ji14) < (s0_0.length : Int) := ua; obtain ⟨ji, jr, j2⟩ := Kd.at_int HSz21_0 (ji14) jd je
           cases jr
           replace j2 := pw_cell_below HB.out j2; replace jd := eq_true jd; replace je := eq_true je; have jf : 0 ≤ ((ji17) : Int) := ua; have jg : (ji17) < (s0_0.length : Int) := ua; obtain ⟨jj, js, j3⟩ := Kd.at_int HSz21_0 (ji17) jf jg; obtain rfl : ji = jj := (by injection js)
           replace j3 := pw_cell_below HB.out j3; replace jf := eq_true jf; replace jg := eq_true jg; go_wp2
           repeat (go_quiet (fail); try go_wp2)
           go_ret; exact ⟨by first | rfl | (simp [errW_none, errW_some] <;> rfl) | (simp only [← hji14, ← hji17]; first | rfl | (simp [errW_none, errW_some] <;> rfl)) | (simp [*, errW_none, errW_some] <;> rfl), uI0 HI0, uB1 HB (IsS91.ge HI0.out), uK0 HK⟩
         ·
          rw [if_neg c19] at H; exact absurd H (by simp)
        ·
         rw [if_neg c18] at H; exact absurd H (by simp)
       ·
        rw [if_neg c16] at H; exact absurd H (by simp)
      ·
       rw [if_neg c15] at H; exact absurd H (by simp)

end Go.Proofs.Ytblpdfgplifccaa.P
-- printed for this claim by a program
namespace Go.Proofs.Ytblpdfgplifccaa.P
open Go.RowKit Go.Proofs.YtblpdfgplifccaaV.PrintWords Go.Proofs.YtblpdfgplifccaaV.PrintLast
set_option linter.unusedVariables false
set_option linter.unusedSimpArgs false

/-! ### spec_l30Rd_one: function 97 -/
def spec_l30Rd_one.f (k : Nat) (s0_0 : List Int) (s0_1 : Int) (l1 : List Int) : Option (Int × Int) := (spec_l30Rd_pick.f k s0_0 s0_1 (l1.length : Int)).bind fun bt101 => (if 0 ≤ bt101.1 then (if bt101.1 < (l1.length : Int) then (some (rd l1 bt101.1, bt101.2)) else (none)) else (none))
set_option maxHeartbeats 8000000 in
set_option maxRecDepth 100000 in
theorem spec_l30Rd_one.calls (k : Nat) (g : Nat) (s0_0 : List Int) (s0_1 : Int) (A1 : Option Addr) (c1 : Nat) (l1 : List Int) (r1 : Int) (r2 : Int) (w0 w : World) (hI : IsS91 w0 w g s0_0 s0_1) (hB : Below w0.heap.size w0 w) (hr1 : Kd.C (Kd.int .i64) w A1 l1.length l1) (hc1 : l1.length ≤ c1) (hf1 : ∀ ad, A1 = some ad → 0 < l1.length → ad.block ≠ g) (h : spec_l30Rd_one.f k s0_0 s0_1 l1 = some (r1, r2)) :
  Calls Try.prog 97 #[.pointer (some ⟨g, 0, none⟩), .slice A1 l1.length c1] w fun e w' => e = .returned (.int .i64 r1) ∧ IsS91 w0 w' g s0_0 r2 ∧ Below w0.heap.size w0 w' ∧ KeepBut w w' g none := by
 have HR1 := Aside0.mk hr1
 have HC1 := Aside0.mk hc1
 clear hr1 hc1
 have HI0 := Aside0.mk hI
 have HK := Aside0.mk (KeepBut.refl w g none)
 have HL := Aside0.mk hB.size
 have HGL0 := Aside0.mk (IsS91.lt hI)
 clear hI
 have HW0 := Aside0.mk hB.size
 have HB := Aside0.mk hB
 clear hB
 have H : ((spec_l30Rd_pick.f k s0_0 s0_1 (l1.length : Int)).bind fun bt101 => (if 0 ≤ bt101.1 then (if bt101.1 < (l1.length : Int) then (some (rd l1 bt101.1, bt101.2)) else (none)) else (none))) = some (r1, r2) := h
 clear h
 replace H := Option.bind_eq_some_iff.mp H
 obtain ⟨⟨t101, t102⟩, A30, H⟩ := H
 replace H : (if 0 ≤ t101 then (if t101 < (l1.length : Int) then (some (rd l1 t101, t102)) else (none)) else (none)) = some (r1, r2) := H
 have A3 := Aside0.mk A30
 clear A30
 by_cases c4 : 0 ≤ t101
 ·
  rw [if_pos c4] at H; have c4b0 := de c4; clear c4; by_cases c5 : t101 < (l1.length : Int)
  ·
   rw [if_pos c5] at H; have c5b0 := dl c5; clear c5; simp only [Option.some.injEq, Prod.mk.injEq] at H; obtain ⟨rfl, rfl⟩ := H; go_enter Try.func97, Try.ntmps97; go_wp2_with (first | ((with_reducible refine gate_callee (f := 80) rfl ?_); refine goesL_ (some 9) rfl rfl Try.func80 (by kernel_rfl) rfl #[.pointer (some ⟨g, 0, none⟩), .int .i64 (l1.length : Int)] rfl ul ?_; (with_reducible refine (spec_l30Rd_pick.calls k g s0_0 s0_1 (l1.length : Int) t101 t102 w0 _ ?side1 ?side2 A3.out).mono ?_); (case side1 => exact uI0 HI0); (case side2 => exact uB1 HB (IsS91.ge HI0.out)); rintro e w6 ⟨rfl, hi, hb, hk⟩; refine ⟨_, rfl, ?_⟩; replace HK := Aside0.mk (KeepBut.trans (uK0 HK) hk (.inl rfl)); replace HB := Aside0.mk (hb); replace HI0 := Aside0.mk (hi); (try clear hb); (try clear hb2); (try clear hk); (try clear hi); have p103 : 0 ≤ (t101 : Int) := ua; have q103 : t101 < (l1.length : Int) := ua; obtain ⟨ad103, e103, hx103_0⟩ := Kd.at_int HR1.out t101 p103 q103; cases e103; replace hx103_0 := keep_cell HK.out hx103_0 (by first | (rw [add_block]; exact hf1 _ rfl (by omega)) | exact hf1 _ rfl (by omega) | exact hf1 ad103 rfl (by omega)); replace p103 := eq_true p103; replace q103 := eq_true q103)); go_ret; exact ⟨ux, uI0 HI0, uB1 HB (IsS91.ge HI0.out), uK0 HK⟩
  ·
   rw [if_neg c5] at H; exact absurd H (by simp)
 ·
  rw [if_neg c4] at H; exact absurd H (by simp)

end Go.Proofs.Ytblpdfgplifccaa.P
-- printed for this claim by a program
namespace Go.Proofs.Ytblpdfgplifccaa.P
open Go.RowKit Go.Proofs.YtblpdfgplifccaaV.PrintWords Go.Proofs.YtblpdfgplifccaaV.PrintLast
set_option linter.unusedVariables false
set_option linter.unusedSimpArgs false

/-! ### spec_l30Node: function 93 -/
def spec_l30Node.f (k : Nat) (s0_0 : List Int) (s0_1 : Int) (a1_0 : Int) (l1_1 : List (S33)) : Option (Int × Int) := (spec_l30Rd_pick.f k s0_0 s0_1 16).bind fun bt102 => (if bt102.1 = 0 then ((spec_l30Rd_one.f k s0_0 bt102.2 (([(-1), a1_0] : List Int))).bind fun bt107 => (some (bt107.1, bt107.2))) else ((spec_l30Rd_pick.f k s0_0 bt102.2 a1_0).bind fun bt109 => (some (bt109.1, bt109.2))))
set_option maxHeartbeats 8000000 in
set_option maxRecDepth 100000 in
theorem spec_l30Node.calls (k : Nat) (g : Nat) (s0_0 : List Int) (s0_1 : Int) (a1_0 : Int) (A1_1 : Option Addr) (c1_1 : Nat) (l1_1 : List (S33)) (r1 : Int) (r2 : Int) (w0 w : World) (hI : IsS91 w0 w g s0_0 s0_1) (hB : Below w0.heap.size w0 w) (hr1_1 : ∀ W_, KeepBut w W_ g none → Kd.C k33 W_ A1_1 l1_1.length l1_1) (hc1_1 : l1_1.length ≤ c1_1) (h : spec_l30Node.f k s0_0 s0_1 a1_0 l1_1 = some (r1, r2)) :
  Calls Try.prog 93 #[.pointer (some ⟨g, 0, none⟩), .agg #[.int .i64 a1_0, .slice A1_1 l1_1.length c1_1]] w fun e w' => e = .returned (.int .i64 r1) ∧ IsS91 w0 w' g s0_0 r2 ∧ Below w0.heap.size w0 w' ∧ KeepBut w w' g none := by
 have hu25 := Try.underlying25
 have ju := Aside0.mk hr1_1
 have jv := Aside0.mk hc1_1
 clear hr1_1 hc1_1
 have HI0 := Aside0.mk hI
 have HK := Aside0.mk (KeepBut.refl w g none)
 have HL := Aside0.mk hB.size
 have HGL0 := Aside0.mk (IsS91.lt hI)
 clear hI
 have HW0 := Aside0.mk hB.size
 have HB := Aside0.mk hB
 clear hB
 have H : ((spec_l30Rd_pick.f k s0_0 s0_1 16).bind fun bt102 => (if bt102.1 = 0 then ((spec_l30Rd_one.f k s0_0 bt102.2 (([(-1), a1_0] : List Int))).bind fun bt107 => (some (bt107.1, bt107.2))) else ((spec_l30Rd_pick.f k s0_0 bt102.2 a1_0).bind fun bt109 => (some (bt109.1, bt109.2))))) = some (r1, r2) := h
 clear h
 replace H := Option.bind_eq_some_iff.mp H
 obtain ⟨⟨j9, j7⟩, A30, H⟩ := H
 replace H : (if j9 = 0 then ((spec_l30Rd_one.f k s0_0 j7 (([(-1), a1_0] : List Int))).bind fun bt107 => (some (bt107.1, bt107.2))) else ((spec_l30Rd_pick.f k s0_0 j7 a1_0).bind fun bt109 => (some (bt109.1, bt109.2)))) = some (r1, r2) := H
 have A3 := Aside0.mk A30
 clear A30
 by_cases c4 : j9 = 0
 ·
  rw [if_pos c4] at H; obtain ⟨jl, jm⟩ := dq c4; clear c4; obtain ⟨jb, j8⟩ : ∃ y_ : List Int, y_ = (([(-1), a1_0] : List Int)) := ⟨_, rfl⟩
  replace H : ((spec_l30Rd_one.f k s0_0 j7 jb).bind fun bt107 => (some (bt107.1, bt107.2))) = some (r1, r2) := by first | (rw [j8]; with_reducible exact H) | (have H2_ := (Option.bind_some _ _).symm.trans H; rw [j8]; with_reducible exact H2_) | (have H2_ := (Option.bind_some _ _).symm.trans H; with_reducible exact H2_) | with_reducible exact H | (rw [j8]; exact H) | exact H
  have ja := Aside0.mk j8; clear j8; replace H := Option.bind_eq_some_iff.mp H; obtain ⟨⟨jc, jd⟩, A50, H⟩ := H; replace H : (some (jc, jd)) = some (r1, r2) := H; have A5 := Aside0.mk A50; clear A50; simp only [Option.some.injEq, Prod.mk.injEq] at H; obtain ⟨rfl, rfl⟩ := H; go_enter Try.func93, Try.ntmps93; go_wp2_with (first | ((with_reducible refine gate_dst (N := 3) rfl ?_); refine be (cs := #[.int .i64 a1_0, .slice A1_1 l1_1.length c1_1]) (t := 25) ?_; intro j1 hg w6 hbox hb; replace HB := Aside0.mk (below_step (uB1 HB (IsS91.ge HI0.out)) hb); replace HI0 := Aside0.mk (IsS91.below (uI0 HI0) hb); have j2 := Aside0.mk (hbox); have j4 := Aside0.mk ((by rw [hg]; exact (keep_size (w := w) (g := g) (row := none) (uK0 HK)) : w.heap.size ≤ j1)); have j5 := Aside0.mk ((Nat.le_trans HW0.out (by rw [hg]; exact (keep_size (w := w) (g := g) (row := none) (uK0 HK)) : w.heap.size ≤ j1) : w0.heap.size ≤ j1)); have j0 := Aside0.mk ((by rw [hg]; exact Nat.ne_of_lt (Nat.lt_of_lt_of_le HGL0.out (keep_size (w := w) (g := g) (row := none) (uK0 HK))) : g ≠ j1)); have j3 := Aside0.mk ((by rw [hg]; exact Nat.ne_of_gt (Nat.lt_of_lt_of_le HGL0.out (keep_size (w := w) (g := g) (row := none) (uK0 HK))) : j1 ≠ g)); replace HK := Aside0.mk (KeepBut.trans (uK0 HK) (KeepBut.of_below hb g none) (.inl rfl)); clear hb hbox hg) | ((with_reducible refine gate_callee (f := 80) rfl ?_); refine goesL_ (some 6) rfl rfl Try.func80 (by kernel_rfl) rfl #[.pointer (some ⟨g, 0, none⟩), .int .i64 16] rfl ul ?_; (with_reducible refine (spec_l30Rd_pick.calls k g s0_0 s0_1 16 j9 j7 w0 _ ?side1 ?side2 A3.out).mono ?_); (case side1 => exact uI1 HI0 j0.out); (case side2 => exact uB2 HB (IsS91.ge HI0.out) j5.out); rintro e w7 ⟨rfl, hi, hb, hk⟩; refine ⟨_, rfl, ?_⟩; replace j2 := Aside0.mk (KeepBut.blk hk (g' := j1) (o := .cells #[.int .i64 a1_0, .slice A1_1 l1_1.length c1_1] 25 (0, 0)) (ub j2) j3.out (by simp)); replace HK := Aside0.mk (KeepBut.trans (uK1 HK j4.out) hk (.inl rfl)); replace HB := Aside0.mk (hb); replace HI0 := Aside0.mk (hi); (try clear hb); (try clear hb2); (try clear hk); (try clear hi); have jy := j3.out; have jz := j0.out; obtain ⟨jn, jo, jp, jq⟩ := bc2 j2) | ((with_reducible refine gate_dst (N := 11) rfl ?_); refine Kd.R_lit (Kd.int .i64) _ 3 ?hg (N := 11) ?hd (xs := ([(-1), a1_0] : List Int)) (inner := [.int .i64 (-1), .int .i64 a1_0]) (ok := fun _ => True) (okp := fun _ => True) ?hr ?hp (fun _ hk => hk) trivial (Below.refl _ _) (Nat.le_refl _) (by simp) ?_; (case hd => rfl); (case hg => rfl); (case hr => first | (go_simp; done) | (go_simp; rfl)); (case hp => exact (Reps.one (show Kd.M (Kd.int .i64) _ _ _ (-1) [.int .i64 (-1)] from rfl) (Reps.one (show Kd.M (Kd.int .i64) _ _ _ a1_0 [.int .i64 a1_0] from rfl) (Reps.none _ _)))); intro v105 w10 ho11 hb hg_ hnew_; clear hg_ hnew_; (first | rw [← ja.out] at ho11 | (simp only [Int.reduceToNat] at ho11; rw [← ja.out] at ho11)); have j6 := Aside0.mk (Kd.R_lower ho11 (keep_size (w := w) (g := g) (row := none) (uK1 HK j4.out))); replace j2 := bb j2 hb; replace HK := Aside0.mk (KeepBut.trans (uK1 HK j4.out) (KeepBut.of_below hb g none) (.inl rfl)); replace HB := Aside0.mk (below_step (uB2 HB (IsS91.ge HI0.out) j5.out) hb); replace HI0 := Aside0.mk (IsS91.below (uI1 HI0 j0.out) hb); clear hb ho11; obtain ⟨jr, js, jt⟩ := Kd.R_slice j6.out; subst jt) | ((with_reducible refine gate_callee (f := 97) rfl ?_); refine goesL_ (some 12) rfl rfl Try.func97 (by kernel_rfl) rfl #[.pointer (some ⟨g, 0, none⟩), .slice jr jb.length js] rfl ul ?_; (with_reducible refine (spec_l30Rd_one.calls k g s0_0 j7 _ _ jb jc jd w0 _ ?side1 ?side2 ?side3 ?side4 ?side5 A5.out).mono ?_); (case side1 => exact uI1 HI0 j0.out); (case side2 => exact uB2 HB (IsS91.ge HI0.out) j5.out); (case side3 => exact uD (Kd.R_reads' j6.out).2.2); (case side4 => exact (Kd.R_reads' j6.out).2.1); (case side5 => exact far_slice (IsS91.own_ne HI0.out j6.out (by decide))); rintro e w13 ⟨rfl, hi, hb, hk⟩; refine ⟨_, rfl, ?_⟩; replace j2 := Aside0.mk (KeepBut.blk hk (g' := j1) (o := .cells #[.int .i64 a1_0, .slice A1_1 l1_1.length c1_1] 25 (0, 0)) (ub j2) j3.out (by simp)); replace j6 := Aside0.mk (Kd.R_mono (Kd.R_keep (IsS91.apart (show IsS91 w0 _ g s0_0 j7 from uI1 HI0 j0.out) (ur j6) (by decide)) hk (fun _ h => h.2)) (fun _ h => h.1)); replace HK := Aside0.mk (KeepBut.trans (uK1 HK j4.out) hk (.inl rfl)); replace HB := Aside0.mk (hb); replace HI0 := Aside0.mk (hi); (try clear hb); (try clear hb2); (try clear hk); (try clear hi))); go_ret; exact ⟨ux, uI1 HI0 j0.out, uB2 HB (IsS91.ge HI0.out) j5.out, uK1 HK j4.out⟩
 ·
  rw [if_neg c4] at H; obtain ⟨jl, jm⟩ := dQ c4; replace H := Option.bind_eq_some_iff.mp H; obtain ⟨⟨je, jf⟩, jg, H⟩ := H; replace H : (some (je, jf)) = some (r1, r2) := H; have A14 := Aside0.mk jg; clear jg; simp only [Option.some.injEq, Prod.mk.injEq] at H; obtain ⟨rfl, rfl⟩ := H; go_enter Try.func93, Try.ntmps93; go_wp2_with (first | ((with_reducible refine gate_dst (N := 3) rfl ?_); refine be (cs := #[.int .i64 a1_0, .slice A1_1 l1_1.length c1_1]) (t := 25) ?_; intro j1 hg w15 hbox hb; replace HB := Aside0.mk (below_step (uB1 HB (IsS91.ge HI0.out)) hb); replace HI0 := Aside0.mk (IsS91.below (uI0 HI0) hb); have j2 := Aside0.mk (hbox); have j4 := Aside0.mk ((by rw [hg]; exact (keep_size (w := w) (g := g) (row := none) (uK0 HK)) : w.heap.size ≤ j1)); have j5 := Aside0.mk ((Nat.le_trans HW0.out (by rw [hg]; exact (keep_size (w := w) (g := g) (row := none) (uK0 HK)) : w.heap.size ≤ j1) : w0.heap.size ≤ j1)); have j0 := Aside0.mk ((by rw [hg]; exact Nat.ne_of_lt (Nat.lt_of_lt_of_le HGL0.out (keep_size (w := w) (g := g) (row := none) (uK0 HK))) : g ≠ j1)); have j3 := Aside0.mk ((by rw [hg]; exact Nat.ne_of_gt (Nat.lt_of_lt_of_le HGL0.out (keep_size (w := w) (g := g) (row := none) (uK0 HK))) : j1 ≠ g)); replace HK := Aside0.mk (KeepBut.trans (uK0 HK) (KeepBut.of_below hb g none) (.inl rfl)); clear hb hbox hg) | ((with_reducible refine gate_callee (f := 80) rfl ?_); refine goesL_ (some 6) rfl rfl Try.func80 (by kernel_rfl) rfl #[.pointer (some ⟨g, 0, none⟩), .int .i64 16] rfl ul ?_; (with_reducible refine (spec_l30Rd_pick.calls k g s0_0 s0_1 16 j9 j7 w0 _ ?side1 ?side2 A3.out).mono ?_); (case side1 => exact uI1 HI0 j0.out); (case side2 => exact uB2 HB (IsS91.ge HI0.out) j5.out); rintro e w16 ⟨rfl, hi, hb, hk⟩; refine ⟨_, rfl, ?_⟩; replace j2 := Aside0.mk (KeepBut.blk hk (g' := j1) (o := .cells #[.int .i64 a1_0, .slice A1_1 l1_1.length c1_1] 25 (0, 0)) (ub j2) j3.out (by simp)); replace HK := Aside0.mk (KeepBut.trans (uK1 HK j4.out) hk (.inl rfl)); replace HB := Aside0.mk (hb); replace HI0 := Aside0.mk (hi); (try clear hb); (try clear hb2); (try clear hk); (try clear hi); have jw := j3.out; have jx := j0.out; obtain ⟨jh, ji, jj, jk⟩ := bc2 j2) | ((with_reducible refine gate_callee (f := 80) rfl ?_); refine goesL_ (some 16) rfl rfl Try.func80 (by kernel_rfl) rfl #[.pointer (some ⟨g, 0, none⟩), .int .i64 a1_0] rfl ul ?_; (with_reducible refine (spec_l30Rd_pick.calls k g s0_0 j7 a1_0 je jf w0 _ ?side1 ?side2 A14.out).mono ?_); (case side1 => exact uI1 HI0 j0.out); (case side2 => exact uB2 HB (IsS91.ge HI0.out) j5.out); rintro e w19 ⟨rfl, hi, hb, hk⟩; refine ⟨_, rfl, ?_⟩; replace j2 := Aside0.mk (KeepBut.blk hk (g' := j1) (o := .cells #[.int .i64 a1_0, .slice A1_1 l1_1.length c1_1] 25 (0, 0)) (ub j2) j3.out (by simp)); replace HK := Aside0.mk (KeepBut.trans (uK1 HK j4.out) hk (.inl rfl)); replace HB := Aside0.mk (hb); replace HI0 := Aside0.mk (hi); (try clear hb); (try clear hb2); (try clear hk); (try clear hi))); go_ret; exact ⟨ux, uI1 HI0 j0.out, uB2 HB (IsS91.ge HI0.out) j5.out, uK1 HK j4.out⟩

end Go.Proofs.Ytblpdfgplifccaa.P
-- printed for this claim by a program
namespace Go.Proofs.Ytblpdfgplifccaa.P
open Go.RowKit Go.Proofs.YtblpdfgplifccaaV.PrintWords Go.Proofs.YtblpdfgplifccaaV.PrintLast
set_option linter.unusedVariables false
set_option linter.unusedSimpArgs false

/-! ### spec_l30Part: function 78 -/
def spec_l30Part.l0 : Nat → List Int → Int → Int → List Int → Int → Int → List (S33) → Option (List Int × Int)
 | 0, _, _, _, _, _, _, _ => none
 | k + 1, x5, x6, x7, x1000, x1001, x102000, x102001 => if x7 < x102000 then ((spec_l30Rd_pick.f k x1000 x1001 x6).bind fun bt107 => (if x5.length < 17592186044416 then (spec_l30Part.l0 k (x5 ++ [bt107.1]) x6 (wrap64 (x7 + 1)) x1000 bt107.2 x102000 x102001) else (none))) else ((spec_l30Rd_pick.f k x1000 x1001 14).bind fun bt112 => (if bt112.1 = 0 then (if x5.length < 17592186044416 then (some ((x5 ++ [0]), bt112.2)) else (none)) else (some (x5, bt112.2))))
def spec_l30Part.f (k : Nat) (s0_0 : List Int) (s0_1 : Int) (a1_0 : Int) (l1_1 : List (S33)) : Option (List Int × Int) := (spec_l30Rd_pick.f k s0_0 s0_1 4).bind fun bt105 => (spec_l30Part.l0 k (([] : List Int)) (wrap64 (1 + bt105.1)) 0 s0_0 bt105.2 a1_0 l1_1)
set_option maxHeartbeats 8000000 in
set_option maxRecDepth 100000 in
theorem spec_l30Part.calls (k : Nat) (g : Nat) (s0_0 : List Int) (s0_1 : Int) (a1_0 : Int) (A1_1 : Option Addr) (c1_1 : Nat) (l1_1 : List (S33)) (r1 : List Int) (r2 : Int) (w0 w : World) (hI : IsS91 w0 w g s0_0 s0_1) (hB : Below w0.heap.size w0 w) (hr1_1 : ∀ W_, KeepBut w W_ g none → Kd.C k33 W_ A1_1 l1_1.length l1_1) (hc1_1 : l1_1.length ≤ c1_1) (h : spec_l30Part.f k s0_0 s0_1 a1_0 l1_1 = some (r1, r2)) :
  Calls Try.prog 78 #[.pointer (some ⟨g, 0, none⟩), .agg #[.int .i64 a1_0, .slice A1_1 l1_1.length c1_1]] w fun e w' => ∃ v0_ : Value, e = .returned (v0_) ∧ Kd.R (Kd.int .i64) 3 w' w.heap.size (fun _ => True) v0_ r1 ∧ IsS91 w0 w' g s0_0 r2 ∧ Below w0.heap.size w0 w' ∧ KeepBut w w' g none := by
 have hu25 := Try.underlying25
 have jK := Aside0.mk hr1_1
 have jL := Aside0.mk hc1_1
 clear hr1_1 hc1_1
 have HI0 := Aside0.mk hI
 have HK := Aside0.mk (KeepBut.refl w g none)
 have HL := Aside0.mk hB.size
 have HGL0 := Aside0.mk (IsS91.lt hI)
 clear hI
 have HW0 := Aside0.mk hB.size
 have HB := Aside0.mk hB
 clear hB
 have H : ((spec_l30Rd_pick.f k s0_0 s0_1 4).bind fun bt105 => (spec_l30Part.l0 k (([] : List Int)) (wrap64 (1 + bt105.1)) 0 s0_0 bt105.2 a1_0 l1_1)) = some (r1, r2) := h
 clear h
 obtain ⟨jk, j9⟩ : ∃ y_ : List Int, y_ = (([] : List Int)) := ⟨_, rfl⟩
 replace H : ((spec_l30Rd_pick.f k s0_0 s0_1 4).bind fun bt105 => (spec_l30Part.l0 k jk (wrap64 (1 + bt105.1)) 0 s0_0 bt105.2 a1_0 l1_1)) = some (r1, r2) := by first | (rw [j9]; with_reducible exact H) | (have H2_ := (Option.bind_some _ _).symm.trans H; rw [j9]; with_reducible exact H2_) | (have H2_ := (Option.bind_some _ _).symm.trans H; with_reducible exact H2_) | with_reducible exact H | (rw [j9]; exact H) | exact H
 have jj := Aside0.mk j9
 clear j9
 replace H := Option.bind_eq_some_iff.mp H
 obtain ⟨⟨jc, jl⟩, A30, H⟩ := H
 replace H : (spec_l30Part.l0 k jk (wrap64 (1 + jc)) 0 s0_0 jl a1_0 l1_1) = some (r1, r2) := H
 have A3 := Aside0.mk A30
 clear A30
 have H' := Aside0.mk H
 clear H
 go_enter Try.func78, Try.ntmps78
 go_wp2_with (first | ((with_reducible refine gate_dst (N := 3) rfl ?_); refine be (cs := #[.int .i64 a1_0, .slice A1_1 l1_1.length c1_1]) (t := 25) ?_; intro j7 hg w4 hbox hb; replace HB := Aside0.mk (below_step (uB1 HB (IsS91.ge HI0.out)) hb); replace HI0 := Aside0.mk (IsS91.below (uI0 HI0) hb); have j1 := Aside0.mk (hbox); have j3 := Aside0.mk ((by rw [hg]; exact (keep_size (w := w) (g := g) (row := none) (uK0 HK)) : w.heap.size ≤ j7)); have j5 := Aside0.mk ((Nat.le_trans HW0.out (by rw [hg]; exact (keep_size (w := w) (g := g) (row := none) (uK0 HK)) : w.heap.size ≤ j7) : w0.heap.size ≤ j7)); have j0 := Aside0.mk ((by rw [hg]; exact Nat.ne_of_lt (Nat.lt_of_lt_of_le HGL0.out (keep_size (w := w) (g := g) (row := none) (uK0 HK))) : g ≠ j7)); have j4 := Aside0.mk ((by rw [hg]; exact Nat.ne_of_gt (Nat.lt_of_lt_of_le HGL0.out (keep_size (w := w) (g := g) (row := none) (uK0 HK))) : j7 ≠ g)); replace HK := Aside0.mk (KeepBut.trans (uK0 HK) (KeepBut.of_below hb g none) (.inl rfl)); clear hb hbox hg) | ((with_reducible refine gate_dst (N := 8) rfl ?_); refine Kd.R_lit (Kd.int .i64) _ 3 ?hg (N := 8) ?hd (xs := ([] : List Int)) (inner := []) (ok := fun _ => True) (okp := fun _ => True) ?hr ?hp (fun _ hk => hk) trivial (Below.refl _ _) (Nat.le_refl _) (by simp) ?_; (case hd => rfl); (case hg => rfl); (case hr => first | (go_simp; done) | (go_simp; rfl)); (case hp => exact (Reps.none _ _)); intro v103 w5 ho6 hb hg_ hnew_; clear hg_ hnew_; (first | rw [← jj.out] at ho6 | (simp only [Int.reduceToNat] at ho6; rw [← jj.out] at ho6)); have je := Aside0.mk (Kd.R_lower ho6 (keep_size (w := w) (g := g) (row := none) (uK1 HK j3.out))); replace j1 := bb j1 hb; replace HK := Aside0.mk (KeepBut.trans (uK1 HK j3.out) (KeepBut.of_below hb g none) (.inl rfl)); replace HB := Aside0.mk (below_step (uB2 HB (IsS91.ge HI0.out) j5.out) hb); replace HI0 := Aside0.mk (IsS91.below (uI1 HI0 j0.out) hb); clear hb ho6) | ((with_reducible refine gate_callee (f := 80) rfl ?_); refine goesL_ (some 10) rfl rfl Try.func80 (by kernel_rfl) rfl #[.pointer (some ⟨g, 0, none⟩), .int .i64 4] rfl ul ?_; (with_reducible refine (spec_l30Rd_pick.calls k g s0_0 s0_1 4 jc jl w0 _ ?side1 ?side2 A3.out).mono ?_); (case side1 => exact uI1 HI0 j0.out); (case side2 => exact uB2 HB (IsS91.ge HI0.out) j5.out); rintro e w7 ⟨rfl, hi, hb, hk⟩; refine ⟨_, rfl, ?_⟩; replace j1 := Aside0.mk (KeepBut.blk hk (g' := j7) (o := .cells #[.int .i64 a1_0, .slice A1_1 l1_1.length c1_1] 25 (0, 0)) (ub j1) j4.out (by simp)); replace je := Aside0.mk (Kd.R_mono (Kd.R_keep (IsS91.apart (show IsS91 w0 _ g s0_0 s0_1 from uI1 HI0 j0.out) (ur je) (by decide)) hk (fun _ h => h.2)) (fun _ h => h.1)); replace HK := Aside0.mk (KeepBut.trans (uK1 HK j3.out) hk (.inl rfl)); replace HB := Aside0.mk (hb); replace HI0 := Aside0.mk (hi); (try clear hb); (try clear hb2); (try clear hk); (try clear hi)))
 go_loopg [5, 7] k (fun kq v5 v7 w' => ∃ (j8 : List Int) (jd : Int) (j2 : Int), v7 = .int .i64 jd ∧ Aside0 (spec_l30Part.l0 kq j8 (wrap64 (1 + jc)) jd s0_0 j2 a1_0 l1_1 = some (r1, r2)) ∧ Aside0 (kq ≤ k) ∧ Aside0 (Kd.R (Kd.int .i64) 3 w' w.heap.size (fun _ => True) v5 j8) ∧ Aside0 (w'.heap[j7]? = some (.cells #[.int .i64 a1_0, (.slice A1_1 l1_1.length c1_1)] 25 (0, 0))) ∧ Aside0 (IsS91 w0 w' g s0_0 j2) ∧ Aside0 (KeepBut w w' g none) ∧ Aside0 (Below w0.heap.size w0 w'))
 case atStart => exact ⟨(jk), (0), (jl), ue, H', ⟨Nat.le_refl _⟩, ⟨ur je⟩, ⟨ub j1⟩, ⟨uI1 HI0 j0.out⟩, ⟨uK1 HK j3.out⟩, ⟨uB2 HB (IsS91.ge HI0.out) j5.out⟩⟩
 case round =>
  clear H'; try clear c1
  (try clear p2); (try clear p6); (try clear c7)
  obtain ⟨j8, jd, j2, rfl, HA, HK1, j6, j1, HI0, HK, HB⟩ := hrel
  cases gk with
  | zero => exact absurd HA.out (by simp [spec_l30Part.l0])
  | succ k1 =>
   have H := HA.out; clear HA; simp only [spec_l30Part.l0] at H; by_cases c8 : jd < a1_0
   ·
    rw [if_pos c8] at H; have jI := dl c8; clear c8; replace H := Option.bind_eq_some_iff.mp H; obtain ⟨⟨jf, jh⟩, A90, H⟩ := H; replace H : (if j8.length < 17592186044416 then (spec_l30Part.l0 k1 (j8 ++ [jf]) (wrap64 (1 + jc)) (wrap64 (jd + 1)) s0_0 jh a1_0 l1_1) else (none)) = some (r1, r2) := H; have A9 := Aside0.mk A90; clear A90; by_cases c10 : j8.length < 17592186044416
    ·
     rw [if_pos c10] at H; have jm := Aside0.mk c10; clear c10; obtain ⟨jn, ja⟩ : ∃ y_ : List Int, y_ = (j8 ++ [jf]) := ⟨_, rfl⟩
     replace H : (spec_l30Part.l0 k1 jn (wrap64 (1 + jc)) (wrap64 (jd + 1)) s0_0 jh a1_0 l1_1) = some (r1, r2) := by first | (rw [ja]; with_reducible exact H) | (have H2_ := (Option.bind_some _ _).symm.trans H; rw [ja]; with_reducible exact H2_) | (have H2_ := (Option.bind_some _ _).symm.trans H; with_reducible exact H2_) | with_reducible exact H | (rw [ja]; exact H) | exact H
     have jo := Aside0.mk ja; clear ja; have H' := Aside0.mk H; clear H; have jM := j4.out; have jN := j0.out; obtain ⟨jw, jx, jy, jz⟩ := bc2 j1; go_wp2_with (first | ((with_reducible refine gate_callee (f := 80) rfl ?_); refine goesL_ (some 21) rfl rfl Try.func80 (by kernel_rfl) rfl #[.pointer (some ⟨g, 0, none⟩), .int .i64 (wrap64 (1 + jc))] rfl ul ?_; (with_reducible refine (spec_l30Rd_pick.calls k1 g s0_0 j2 (wrap64 (1 + jc)) jf jh w0 _ ?side1 ?side2 A9.out).mono ?_); (case side1 => exact uI1 HI0 j0.out); (case side2 => exact uB2 HB (IsS91.ge HI0.out) j5.out); rintro e w13 ⟨rfl, hi, hb, hk⟩; refine ⟨_, rfl, ?_⟩; replace j6 := Aside0.mk (Kd.R_mono (Kd.R_keep (IsS91.apart (show IsS91 w0 _ g s0_0 j2 from uI1 HI0 j0.out) (ur j6) (by decide)) hk (fun _ h => h.2)) (fun _ h => h.1)); replace j1 := Aside0.mk (KeepBut.blk hk (g' := j7) (o := .cells #[.int .i64 a1_0, .slice A1_1 l1_1.length c1_1] 25 (0, 0)) (ub j1) j4.out (by simp)); replace HK := Aside0.mk (KeepBut.trans (uK1 HK j3.out) hk (.inl rfl)); replace HB := Aside0.mk (hb); replace HI0 := Aside0.mk (hi); (try clear hb); (try clear hb2); (try clear hk); (try clear hi)) | ((with_reducible refine gate_builtin (b := .append) (xs := #[.tmp 18, .tmp 22]) rfl ?_); at_builtin; refine Kd.R_append (Kd.int .i64) w.heap.size rfl (.tmp 18) (.tmp 22) 26 3 (.int .i64 0) 8 rfl Try.underlying26 info3 rfl (by decide) (by omega) u5 j8 jf [.int .i64 jf] (fun _ => True) (fun _ => False) rfl rfl ?aP (fun _ hk => hk.elim) ?aF ?aO (Below.refl _ _) ?aS ?aL ?_; (case aP => exact rfl); (case aF => exact (fun _ _ => trivial)); (case aO => exact (ur j6)); (case aS => exact (keep_size (w := w) (g := g) (row := none) (uK1 HK j3.out))); (case aL => have := jm.out; omega); intro v110 w14 ho hb hg hat; rw [← jo.out] at ho; replace j1 := bg j1 hg (Kd.R_ne j6.out j1.out (by decide)); replace HB := Aside0.mk (below_weaken (uB2 HB (IsS91.ge HI0.out) j5.out) HL.out hb); replace HI0 := Aside0.mk (IsS91.grown (uI1 HI0 j0.out) hg (IsS91.own_ne HI0.out j6.out (by decide))); replace HK := Aside0.mk (KeepBut.trans (uK1 HK j3.out) (KeepBut.of_grown hg g) (Kd.R_base2 j6.out)); have jp := Aside0.mk (ho); clear j6; clear ho hb hg hat)); go_roundg k1
     case measure => have := HK1.out; omega
     case rel => exact ⟨(jn), (wrap64 (jd + 1)), (jh), ue, H', ⟨by have := HK1.out; omega⟩, ⟨ur jp⟩, ⟨ub j1⟩, ⟨uI1 HI0 j0.out⟩, ⟨uK1 HK j3.out⟩, ⟨uB2 HB (IsS91.ge HI0.out) j5.out⟩⟩
    ·
     rw [if_neg c10] at H; exact absurd H (by simp)
   ·
    rw [if_neg c8] at H; have jI := DL c8; clear c8; replace H := Option.bind_eq_some_iff.mp H; obtain ⟨⟨ji, jg⟩, jq, H⟩ := H; replace H : (if ji = 0 then (if j8.length < 17592186044416 then (some ((j8 ++ [0]), jg)) else (none)) else (some (j8, jg))) = some (r1, r2) := H; have A15 := Aside0.mk jq; clear jq; by_cases c16 : ji = 0
    ·
     rw [if_pos c16] at H; obtain ⟨jr, js⟩ := dq c16; clear c16; by_cases c17 : j8.length < 17592186044416
     ·
      rw [if_pos c17] at H; have jt := Aside0.mk c17; clear c17; obtain ⟨jJ, jb⟩ : ∃ y_ : List Int, y_ = (j8 ++ [0]) := ⟨_, rfl⟩
      replace H : (some (jJ, jg)) = some (r1, r2) := by first | (rw [jb]; with_reducible exact H) | (have H2_ := (Option.bind_some _ _).symm.trans H; rw [jb]; with_reducible exact H2_) | (have H2_ := (Option.bind_some _ _).symm.trans H; with_reducible exact H2_) | with_reducible exact H | (rw [jb]; exact H) | exact H
      have ju := Aside0.mk jb; clear jb; simp only [Option.some.injEq, Prod.mk.injEq] at H; obtain ⟨rfl, rfl⟩ := H; have jO := j4.out; have jP := j0.out; obtain ⟨jA, jB, jC, jD⟩ := bc2 j1; go_wp2_with (first | ((with_reducible refine gate_callee (f := 80) rfl ?_); refine goesL_ (some 25) rfl rfl Try.func80 (by kernel_rfl) rfl #[.pointer (some ⟨g, 0, none⟩), .int .i64 14] rfl ul ?_; (with_reducible refine (spec_l30Rd_pick.calls k1 g s0_0 j2 14 ji jg w0 _ ?side1 ?side2 A15.out).mono ?_); (case side1 => exact uI1 HI0 j0.out); (case side2 => exact uB2 HB (IsS91.ge HI0.out) j5.out); rintro e w20 ⟨rfl, hi, hb, hk⟩; refine ⟨_, rfl, ?_⟩; replace j6 := Aside0.mk (Kd.R_mono (Kd.R_keep (IsS91.apart (show IsS91 w0 _ g s0_0 j2 from uI1 HI0 j0.out) (ur j6) (by decide)) hk (fun _ h => h.2)) (fun _ h => h.1)); replace j1 := Aside0.mk (KeepBut.blk hk (g' := j7) (o := .cells #[.int .i64 a1_0, .slice A1_1 l1_1.length c1_1] 25 (0, 0)) (ub j1) j4.out (by simp)); replace HK := Aside0.mk (KeepBut.trans (uK1 HK j3.out) hk (.inl rfl)); replace HB := Aside0.mk (hb); replace HI0 := Aside0.mk (hi); (try clear hb); (try clear hb2); (try clear hk); (try clear hi)) | ((with_reducible refine gate_builtin (b := .append) (xs := #[.tmp 27, .tmp 28]) rfl ?_); at_builtin; refine Kd.R_append (Kd.int .i64) w.heap.size rfl (.tmp 27) (.tmp 28) 26 3 (.int .i64 0) 8 rfl Try.underlying26 info3 rfl (by decide) (by omega) u5 j8 0 [.int .i64 0] (fun _ => True) (fun _ => False) rfl rfl ?aP (fun _ hk => hk.elim) ?aF ?aO (Below.refl _ _) ?aS ?aL ?_; (case aP => exact rfl); (case aF => exact (fun _ _ => trivial)); (case aO => exact (ur j6)); (case aS => exact (keep_size (w := w) (g := g) (row := none) (uK1 HK j3.out))); (case aL => have := jt.out; omega); intro v115 w21 ho hb hg hat; rw [← ju.out] at ho; replace j1 := bg j1 hg (Kd.R_ne j6.out j1.out (by decide)); replace HB := Aside0.mk (below_weaken (uB2 HB (IsS91.ge HI0.out) j5.out) HL.out hb); replace HI0 := Aside0.mk (IsS91.grown (uI1 HI0 j0.out) hg (IsS91.own_ne HI0.out j6.out (by decide))); replace HK := Aside0.mk (KeepBut.trans (uK1 HK j3.out) (KeepBut.of_grown hg g) (Kd.R_base2 j6.out)); have jv := Aside0.mk (ho); clear j6; clear ho hb hg hat)); go_ret; exact ⟨_, by first | rfl | (simp [errW_none, errW_some] <;> rfl) | (simp [*, errW_none, errW_some] <;> rfl), by (with_reducible repeat (first | apply Kd.R_alloc | apply Kd.R_drewN | apply Kd.R_drew)); exact jv.out, uI1 HI0 j0.out, uB2 HB (IsS91.ge HI0.out) j5.out, uK1 HK j3.out⟩
     ·
      rw [if_neg c17] at H; exact absurd H (by simp)
    ·
     rw [if_neg c16] at H; obtain ⟨jr, js⟩ := dQ c16; simp only [Option.some.injEq, Prod.mk.injEq] at H; obtain ⟨rfl, rfl⟩ := H; have jQ := j4.out; have jR := j0.out; obtain ⟨jE, jF, jG, jH⟩ := bc2 j1; go_wp2_with (first | ((with_reducible refine gate_callee (f := 80) rfl ?_); refine goesL_ (some 25) rfl rfl Try.func80 (by kernel_rfl) rfl #[.pointer (some ⟨g, 0, none⟩), .int .i64 14] rfl ul ?_; (with_reducible refine (spec_l30Rd_pick.calls k1 g s0_0 j2 14 ji jg w0 _ ?side1 ?side2 A15.out).mono ?_); (case side1 => exact uI1 HI0 j0.out); (case side2 => exact uB2 HB (IsS91.ge HI0.out) j5.out); rintro e w24 ⟨rfl, hi, hb, hk⟩; refine ⟨_, rfl, ?_⟩; replace j6 := Aside0.mk (Kd.R_mono (Kd.R_keep (IsS91.apart (show IsS91 w0 _ g s0_0 j2 from uI1 HI0 j0.out) (ur j6) (by decide)) hk (fun _ h => h.2)) (fun _ h => h.1)); replace j1 := Aside0.mk (KeepBut.blk hk (g' := j7) (o := .cells #[.int .i64 a1_0, .slice A1_1 l1_1.length c1_1] 25 (0, 0)) (ub j1) j4.out (by simp)); replace HK := Aside0.mk (KeepBut.trans (uK1 HK j3.out) hk (.inl rfl)); replace HB := Aside0.mk (hb); replace HI0 := Aside0.mk (hi); (try clear hb); (try clear hb2); (try clear hk); (try clear hi))); go_ret; exact ⟨_, by first | rfl | (simp [errW_none, errW_some] <;> rfl) | (simp [*, errW_none, errW_some] <;> rfl), by (with_reducible repeat (first | apply Kd.R_alloc | apply Kd.R_drewN | apply Kd.R_drew)); exact j6.out, uI1 HI0 j0.out, uB2 HB (IsS91.ge HI0.out) j5.out, uK1 HK j3.out⟩

end Go.Proofs.Ytblpdfgplifccaa.P
