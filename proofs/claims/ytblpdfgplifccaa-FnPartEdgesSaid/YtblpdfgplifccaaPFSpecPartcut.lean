-- written for this claim by a program (wip/gen/myprint.py over the print tool). Not trusted: Lean checks it.
import Derived.Test.YtblpdfgplifccaaPx0
import Derived.Test.YtblpdfgplifccaaHUp
import Derived.Test.YtblpdfgplifccaaGBase
import Derived.Test.YtblpdfgplifccaaPFSpecL10Parts
namespace Go.Proofs.Ytblpdfgplifccaa.P
open Go.RowKit Go.Proofs.YtblpdfgplifccaaV.PrintWords Go.Proofs.YtblpdfgplifccaaV.PrintLast
set_option linter.unusedVariables false
set_option linter.unusedSimpArgs false

/-! ### spec_PartCut: function 23 -/
mutual
def spec_PartCut.j0 : Nat → List Int → Int → Bool → Int → List (S33) → Option (Int)
 | 0, _, _, _, _, _ => none
 | k + 1, x1, x5, x15, x102000, x102001 => if x15 = true then (some (-1)) else (spec_PartCut.l0 k x1 x5 0 x102000 x102001)
def spec_PartCut.l0 : Nat → List Int → Int → Int → Int → List (S33) → Option (Int)
 | 0, _, _, _, _, _ => none
 | k + 1, x1, x5, x6, x102000, x102001 => if x6 < (x102001.length : Int) then (if 0 ≤ x6 then (if 0 ≤ ((rd_T33 x102001 x6).f0) then (if ((rd_T33 x102001 x6).f0) < (x1.length : Int) then (if 0 ≤ ((rd_T33 x102001 x6).f1) then (if ((rd_T33 x102001 x6).f1) < (x1.length : Int) then (if (rd x1 ((rd_T33 x102001 x6).f0)) = (rd x1 ((rd_T33 x102001 x6).f1)) then (spec_PartCut.l0 k x1 x5 (wrap64 (x6 + 1)) x102000 x102001) else (spec_PartCut.l0 k x1 (wrap64 (x5 + 1)) (wrap64 (x6 + 1)) x102000 x102001)) else (none)) else (none)) else (none)) else (none)) else (none)) else (some x5)
end
def spec_PartCut.f (k : Nat) (a0_0 : Int) (l0_1 : List (S33)) (l1 : List Int) : Option (Int) := (spec_l1Ok.f k a0_0 l0_1).bind fun t102 => (if t102 = true then ((spec_l10Parts.f k a0_0 l0_1 l1).bind fun t103 => (spec_PartCut.j0 k l1 0 (!t103) a0_0 l0_1)) else (spec_PartCut.j0 k l1 0 true a0_0 l0_1))
set_option maxHeartbeats 8000000 in
set_option maxRecDepth 100000 in
theorem spec_PartCut.calls (k : Nat) (a0_0 : Int) (A0_1 : Option Addr) (c0_1 : Nat) (l0_1 : List (S33)) (A1 : Option Addr) (c1 : Nat) (l1 : List Int) (r : Int) (w : World) (hr0_1 : Kd.C k33 w A0_1 l0_1.length l0_1) (hc0_1 : l0_1.length ≤ c0_1) (hr1 : Kd.C (Kd.int .i64) w A1 l1.length l1) (hc1 : l1.length ≤ c1) (h : spec_PartCut.f k a0_0 l0_1 l1 = some r) :
  Calls Try.prog 23 #[.agg #[.int .i64 a0_0, .slice A0_1 l0_1.length c0_1], .slice A1 l1.length c1] w fun e w' => e = .returned (.int .i64 r) ∧ Below w.heap.size w w' := by
 have hu25 := Try.underlying25
 have HR0_1 := Aside0.mk hr0_1
 have HC0_1 := Aside0.mk hc0_1
 clear hr0_1 hc0_1
 have HR1 := Aside0.mk hr1
 have HC1 := Aside0.mk hc1
 clear hr1 hc1
 have HB := Aside0.mk (Below.refl w.heap.size w)
 have H : ((spec_l1Ok.f k a0_0 l0_1).bind fun t102 => (if t102 = true then ((spec_l10Parts.f k a0_0 l0_1 l1).bind fun t103 => (spec_PartCut.j0 k l1 0 (!t103) a0_0 l0_1)) else (spec_PartCut.j0 k l1 0 true a0_0 l0_1))) = some r := h
 clear h
 have HC3 := Aside0.mk H
 clear H
 go_enter Try.func23, Try.ntmps23
 go_upto_region 2 with (first | ((with_reducible refine gate_dst (N := 2) rfl ?_); refine be (cs := #[.int .i64 a0_0, .slice A0_1 l0_1.length c0_1]) (t := 25) ?_; intro gb101 hg w4 hbox hb; have BK101 := Aside0.mk (hbox); have GW101 := gz w hg (uB0 HB); have GE101 := gz w hg (uB0 HB); replace HB := Aside0.mk (below_step (uB0 HB) hb); clear hb hbox hg))
 repeat (go_quiet (first | ((with_reducible refine gate_dst (N := 2) rfl ?_); refine be (cs := #[.int .i64 a0_0, .slice A0_1 l0_1.length c0_1]) (t := 25) ?_; intro gb101 hg w4 hbox hb; have BK101 := Aside0.mk (hbox); have GW101 := gz w hg (uB0 HB); have GE101 := gz w hg (uB0 HB); replace HB := Aside0.mk (below_step (uB0 HB) hb); clear hb hbox hg)); go_upto_region 2 with (first | ((with_reducible refine gate_dst (N := 2) rfl ?_); refine be (cs := #[.int .i64 a0_0, .slice A0_1 l0_1.length c0_1]) (t := 25) ?_; intro gb101 hg w4 hbox hb; have BK101 := Aside0.mk (hbox); have GW101 := gz w hg (uB0 HB); have GE101 := gz w hg (uB0 HB); replace HB := Aside0.mk (below_step (uB0 HB) hb); clear hb hbox hg)))
 (try simp only [Act.put, List.setIfInBounds_toArray, List.set_cons_zero, List.set_cons_succ])
 go_cut [15] (fun v15 wc => ∃ (kq : Nat) (x15_2 : Bool), v15 = .bool x15_2 ∧ Aside0 (spec_PartCut.j0 kq l1 0 x15_2 a0_0 l0_1 = some r) ∧ Aside0 (kq ≤ k) ∧ Aside0 (wc.heap[gb101]? = some (.cells #[.int .i64 a0_0, (.slice A0_1 l0_1.length c0_1)] 25 (0, 0))) ∧ Aside0 (Below w.heap.size w wc))
 case first =>
  have H := HC3.out; clear HC3; replace H := Option.bind_eq_some_iff.mp H; obtain ⟨t102, A50, H⟩ := H; replace H : (if t102 = true then ((spec_l10Parts.f k a0_0 l0_1 l1).bind fun t103 => (spec_PartCut.j0 k l1 0 (!t103) a0_0 l0_1)) else (spec_PartCut.j0 k l1 0 true a0_0 l0_1)) = some r := H; have A5 := Aside0.mk A50; clear A50; by_cases c6 : t102 = true
  ·
   subst c6; rw [if_pos rfl] at H; replace H := Option.bind_eq_some_iff.mp H; obtain ⟨t103, A70, H⟩ := H; replace H : (spec_PartCut.j0 k l1 0 (!t103) a0_0 l0_1) = some r := H; have A7 := Aside0.mk A70; clear A70; have H' := Aside0.mk H; clear H; obtain ⟨hcz8_0, hcz8_1, hfz8_0, hfz8_1⟩ := bc2 BK101; go_wp2_with (first | (go_at_call 60; (with_reducible refine (spec_l1Ok.calls k a0_0 _ _ l0_1 true _ ?side1 ?side2 A5.out).mono ?_); (case side1 => exact uC HR0_1 HB); (case side2 => exact HC0_1.out); rintro e w9 ⟨rfl, hb⟩; replace BK101 := bb BK101 hb; replace HB := Aside0.mk (below_step (uB1 HB GE101.out) hb); (try clear hb); (try clear hb2); (try clear hk); (try clear hi); obtain ⟨hcz10_0, hcz10_1, hfz10_0, hfz10_1⟩ := bc2 BK101) | (go_at_call 70; (with_reducible refine (spec_l10Parts.calls k a0_0 _ _ l0_1 _ _ l1 t103 _ ?side1 ?side2 ?side3 ?side4 A7.out).mono ?_); (case side1 => exact uC HR0_1 HB); (case side2 => exact HC0_1.out); (case side3 => exact uC HR1 HB); (case side4 => exact HC1.out); rintro e w11 ⟨rfl, hb⟩; replace BK101 := bb BK101 hb; replace HB := Aside0.mk (below_step (uB1 HB GE101.out) hb); (try clear hb); (try clear hb2); (try clear hk); (try clear hi)))
   repeat (go_quiet (first | (go_at_call 60; (with_reducible refine (spec_l1Ok.calls k a0_0 _ _ l0_1 true _ ?side1 ?side2 A5.out).mono ?_); (case side1 => exact uC HR0_1 HB); (case side2 => exact HC0_1.out); rintro e w9 ⟨rfl, hb⟩; replace BK101 := bb BK101 hb; replace HB := Aside0.mk (below_step (uB1 HB GE101.out) hb); (try clear hb); (try clear hb2); (try clear hk); (try clear hi); obtain ⟨hcz10_0, hcz10_1, hfz10_0, hfz10_1⟩ := bc2 BK101) | (go_at_call 70; (with_reducible refine (spec_l10Parts.calls k a0_0 _ _ l0_1 _ _ l1 t103 _ ?side1 ?side2 ?side3 ?side4 A7.out).mono ?_); (case side1 => exact uC HR0_1 HB); (case side2 => exact HC0_1.out); (case side3 => exact uC HR1 HB); (case side4 => exact HC1.out); rintro e w11 ⟨rfl, hb⟩; replace BK101 := bb BK101 hb; replace HB := Aside0.mk (below_step (uB1 HB GE101.out) hb); (try clear hb); (try clear hb2); (try clear hk); (try clear hi))); try go_wp2_with (first | (go_at_call 60; (with_reducible refine (spec_l1Ok.calls k a0_0 _ _ l0_1 true _ ?side1 ?side2 A5.out).mono ?_); (case side1 => exact uC HR0_1 HB); (case side2 => exact HC0_1.out); rintro e w9 ⟨rfl, hb⟩; replace BK101 := bb BK101 hb; replace HB := Aside0.mk (below_step (uB1 HB GE101.out) hb); (try clear hb); (try clear hb2); (try clear hk); (try clear hi); obtain ⟨hcz10_0, hcz10_1, hfz10_0, hfz10_1⟩ := bc2 BK101) | (go_at_call 70; (with_reducible refine (spec_l10Parts.calls k a0_0 _ _ l0_1 _ _ l1 t103 _ ?side1 ?side2 ?side3 ?side4 A7.out).mono ?_); (case side1 => exact uC HR0_1 HB); (case side2 => exact HC0_1.out); (case side3 => exact uC HR1 HB); (case side4 => exact HC1.out); rintro e w11 ⟨rfl, hb⟩; replace BK101 := bb BK101 hb; replace HB := Aside0.mk (below_step (uB1 HB GE101.out) hb); (try clear hb); (try clear hb2); (try clear hk); (try clear hi))))
   go_meet
   case rel => exact ⟨_, (!t103), ue, H', ⟨by first | omega | exact Nat.le_refl _⟩, ⟨ub BK101⟩, ⟨uB1 HB GE101.out⟩⟩
  ·
   replace c6 := Bool.eq_false_iff.mpr c6; subst c6; rw [if_neg (show ¬ (false = true) by decide)] at H; have H' := Aside0.mk H; clear H; obtain ⟨hcz12_0, hcz12_1, hfz12_0, hfz12_1⟩ := bc2 BK101; go_wp2_with (first | (go_at_call 60; (with_reducible refine (spec_l1Ok.calls k a0_0 _ _ l0_1 false _ ?side1 ?side2 A5.out).mono ?_); (case side1 => exact uC HR0_1 HB); (case side2 => exact HC0_1.out); rintro e w13 ⟨rfl, hb⟩; replace BK101 := bb BK101 hb; replace HB := Aside0.mk (below_step (uB1 HB GE101.out) hb); (try clear hb); (try clear hb2); (try clear hk); (try clear hi)))
   repeat (go_quiet (first | (go_at_call 60; (with_reducible refine (spec_l1Ok.calls k a0_0 _ _ l0_1 false _ ?side1 ?side2 A5.out).mono ?_); (case side1 => exact uC HR0_1 HB); (case side2 => exact HC0_1.out); rintro e w13 ⟨rfl, hb⟩; replace BK101 := bb BK101 hb; replace HB := Aside0.mk (below_step (uB1 HB GE101.out) hb); (try clear hb); (try clear hb2); (try clear hk); (try clear hi))); try go_wp2_with (first | (go_at_call 60; (with_reducible refine (spec_l1Ok.calls k a0_0 _ _ l0_1 false _ ?side1 ?side2 A5.out).mono ?_); (case side1 => exact uC HR0_1 HB); (case side2 => exact HC0_1.out); rintro e w13 ⟨rfl, hb⟩; replace BK101 := bb BK101 hb; replace HB := Aside0.mk (below_step (uB1 HB GE101.out) hb); (try clear hb); (try clear hb2); (try clear hk); (try clear hi))))
   go_meet
   case rel => exact ⟨_, (true), ue, H', ⟨by first | omega | exact Nat.le_refl _⟩, ⟨ub BK101⟩, ⟨uB1 HB GE101.out⟩⟩
 case rest =>
  clear HC3; try clear c1
  try clear c2
  try clear p2
  try clear c6
  try clear hcz10_0 hcz10_1
  try clear hcz12_0 hcz12_1
  try clear hcz8_0 hcz8_1
  try clear hfz10_0 hfz10_1
  try clear hfz12_0 hfz12_1
  try clear hfz8_0 hfz8_1
  obtain ⟨kq, x15_2, rfl, HA, HJ2, BK101, HB⟩ := hcut
  cases kq with
  | zero => exact absurd HA.out (by simp [spec_PartCut.j0])
  | succ kj2 =>
   have H := HA.out; clear HA; simp only [spec_PartCut.j0] at H; by_cases c14 : x15_2 = true
   ·
    subst c14; rw [if_pos rfl] at H; obtain rfl := Option.some.inj H; go_wp2
    repeat (go_quiet (fail); try go_wp2)
    go_ret; exact ⟨ux, uB1 HB GE101.out⟩
   ·
    replace c14 := Bool.eq_false_iff.mpr c14; subst c14; rw [if_neg (show ¬ (false = true) by decide)] at H; have H' := Aside0.mk H; clear H; go_wp2
    repeat (go_quiet (fail); try go_wp2)
    go_loopg [5, 6] kj2 (fun kq v5 v6 w' => ∃ (x5_2 : Int) (x6_2 : Int), v5 = .int .i64 x5_2 ∧ v6 = .int .i64 x6_2 ∧ Aside0 (spec_PartCut.l0 kq l1 x5_2 x6_2 a0_0 l0_1 = some r) ∧ Aside0 (kq ≤ kj2) ∧ Aside0 (w'.heap[gb101]? = some (.cells #[.int .i64 a0_0, (.slice A0_1 l0_1.length c0_1)] 25 (0, 0))) ∧ Aside0 (Below w.heap.size w w'))
    case atStart => exact ⟨(0), (0), ue, ue, H', ⟨Nat.le_refl _⟩, ⟨ub BK101⟩, ⟨uB1 HB GE101.out⟩⟩
    case round =>
     clear H'; try clear c1
     try clear c2
     try clear p2
     try clear c6
     try clear c14
     try clear hcz10_0 hcz10_1
     try clear hcz12_0 hcz12_1
     try clear hcz8_0 hcz8_1
     try clear hfz10_0 hfz10_1
     try clear hfz12_0 hfz12_1
     try clear hfz8_0 hfz8_1
     try clear p2
     obtain ⟨x5_2, x6_2, rfl, rfl, HA, HK2, BK101, HB⟩ := hrel
     cases gk with
     | zero => exact absurd HA.out (by simp [spec_PartCut.l0])
     | succ k2 =>
      have H := HA.out; clear HA; simp only [spec_PartCut.l0] at H; by_cases c15 : x6_2 < (l0_1.length : Int)
      ·
       rw [if_pos c15] at H; have c15b0 := dl c15; clear c15; by_cases c16 : 0 ≤ x6_2
       ·
        rw [if_pos c16] at H; have c16b0 := de c16; clear c16; by_cases c17 : 0 ≤ ((rd_T33 l0_1 x6_2).f0)
        ·
         rw [if_pos c17] at H; have c17b0 := de c17; clear c17; by_cases c18 : ((rd_T33 l0_1 x6_2).f0) < (l1.length : Int)
         ·
          rw [if_pos c18] at H; have c18b0 := dl c18; clear c18; by_cases c19 : 0 ≤ ((rd_T33 l0_1 x6_2).f1)
          ·
           rw [if_pos c19] at H; have c19b0 := de c19; clear c19; by_cases c20 : ((rd_T33 l0_1 x6_2).f1) < (l1.length : Int)
           ·
            rw [if_pos c20] at H; have c20b0 := dl c20; clear c20; by_cases c21 : (rd l1 ((rd_T33 l0_1 x6_2).f0)) = (rd l1 ((rd_T33 l0_1 x6_2).f1))
            ·
             rw [if_pos c21] at H; obtain ⟨c21b0, c21b1⟩ := dq c21; clear c21; have H' := Aside0.mk H; clear H; obtain ⟨hcz22_0, hcz22_1, hfz22_0, hfz22_1⟩ := bc2 BK101; have p104 : 0 ≤ (x6_2 : Int) := ua; have q104 : x6_2 < (l0_1.length : Int) := ua; obtain ⟨ad104, e104, hx104_0, hx104_1, hx104_2, hx104_3, hx104_4⟩ := at_T33 HR0_1.out x6_2 p104 q104
             cases e104
             replace hx104_0 := uc HB hx104_0; replace hx104_1 := uc HB hx104_1; replace hx104_2 := uc HB hx104_2; replace hx104_3 := uc HB hx104_3; replace hx104_4 := uc HB hx104_4; replace p104 := eq_true p104; replace q104 := eq_true q104; have p105 : 0 ≤ (((rd_T33 l0_1 x6_2).f0) : Int) := ua; have q105 : ((rd_T33 l0_1 x6_2).f0) < (l1.length : Int) := ua; obtain ⟨ad105, e105, hx105_0⟩ := Kd.at_int HR1.out ((rd_T33 l0_1 x6_2).f0) p105 q105
             cases e105
             replace hx105_0 := uc HB hx105_0; replace p105 := eq_true p105; replace q105 := eq_true q105; have p106 : 0 ≤ (x6_2 : Int) := ua; have q106 : x6_2 < (l0_1.length : Int) := ua; obtain ⟨ad106, e106, hx106_0, hx106_1, hx106_2, hx106_3, hx106_4⟩ := at_T33 HR0_1.out x6_2 p106 q106; obtain rfl : ad104 = ad106 := (by injection e106)
             replace hx106_0 := uc HB hx106_0; replace hx106_1 := uc HB hx106_1; replace hx106_2 := uc HB hx106_2; replace hx106_3 := uc HB hx106_3; replace hx106_4 := uc HB hx106_4; replace p106 := eq_true p106; replace q106 := eq_true q106; have p107 : 0 ≤ (((rd_T33 l0_1 x6_2).f1) : Int) := ua; have q107 : ((rd_T33 l0_1 x6_2).f1) < (l1.length : Int) := ua; obtain ⟨ad107, e107, hx107_0⟩ := Kd.at_int HR1.out ((rd_T33 l0_1 x6_2).f1) p107 q107; obtain rfl : ad105 = ad107 := (by injection e107)
             replace hx107_0 := uc HB hx107_0; replace p107 := eq_true p107; replace q107 := eq_true q107; go_wp2
             repeat (go_quiet (fail); try go_wp2)
             go_roundg k2
             case measure => have := HJ2.out; have := HK2.out; omega
             case rel => exact ⟨(x5_2), (wrap64 (x6_2 + 1)), ue, ue, H', ⟨by have := HJ2.out; have := HK2.out; omega⟩, ⟨ub BK101⟩, ⟨uB1 HB GE101.out⟩⟩
            ·
             rw [if_neg c21] at H; obtain ⟨c21b0, c21b1⟩ := dQ c21; have H' := Aside0.mk H; clear H; obtain ⟨hcz23_0, hcz23_1, hfz23_0, hfz23_1⟩ := bc2 BK101; have p104 : 0 ≤ (x6_2 : Int) := ua; have q104 : x6_2 < (l0_1.length : Int) := ua; obtain ⟨ad104, e104, hx104_0, hx104_1, hx104_2, hx104_3, hx104_4⟩ := at_T33 HR0_1.out x6_2 p104 q104
             cases e104
             replace hx104_0 := uc HB hx104_0; replace hx104_1 := uc HB hx104_1; replace hx104_2 := uc HB hx104_2; replace hx104_3 := uc HB hx104_3; replace hx104_4 := uc HB hx104_4; replace p104 := eq_true p104; replace q104 := eq_true q104; have p105 : 0 ≤ (((rd_T33 l0_1 x6_2).f0) : Int) := ua; have q105 : ((rd_T33 l0_1 x6_2).f0) < (l1.length : Int) := ua; obtain ⟨ad105, e105, hx105_0⟩ := Kd.at_int HR1.out ((rd_T33 l0_1 x6_2).f0) p105 q105
             cases e105
             replace hx105_0 := uc HB hx105_0; replace p105 := eq_true p105; replace q105 := eq_true q105; have p106 : 0 ≤ (x6_2 : Int) := ua; have q106 : x6_2 < (l0_1.length : Int) := ua; obtain ⟨ad106, e106, hx106_0, hx106_1, hx106_2, hx106_3, hx106_4⟩ := at_T33 HR0_1.out x6_2 p106 q106; obtain rfl : ad104 = ad106 := (by injection e106)
             replace hx106_0 := uc HB hx106_0; replace hx106_1 := uc HB hx106_1; replace hx106_2 := uc HB hx106_2; replace hx106_3 := uc HB hx106_3; replace hx106_4 := uc HB hx106_4; replace p106 := eq_true p106; replace q106 := eq_true q106; have p107 : 0 ≤ (((rd_T33 l0_1 x6_2).f1) : Int) := ua; have q107 : ((rd_T33 l0_1 x6_2).f1) < (l1.length : Int) := ua; obtain ⟨ad107, e107, hx107_0⟩ := Kd.at_int HR1.out ((rd_T33 l0_1 x6_2).f1) p107 q107; obtain rfl : ad105 = ad107 := (by injection e107)
             replace hx107_0 := uc HB hx107_0; replace p107 := eq_true p107; replace q107 := eq_true q107; go_wp2
             repeat (go_quiet (fail); try go_wp2)
             go_roundg k2
             case measure => have := HJ2.out; have := HK2.out; omega
             case rel => exact ⟨(wrap64 (x5_2 + 1)), (wrap64 (x6_2 + 1)), ue, ue, H', ⟨by have := HJ2.out; have := HK2.out; omega⟩, ⟨ub BK101⟩, ⟨uB1 HB GE101.out⟩⟩
           ·
            rw [if_neg c20] at H; exact absurd H (by simp)
          ·
           rw [if_neg c19] at H; exact absurd H (by simp)
         ·
          rw [if_neg c18] at H; exact absurd H (by simp)
        ·
         rw [if_neg c17] at H; exact absurd H (by simp)
       ·
        rw [if_neg c16] at H; exact absurd H (by simp)
      ·
       rw [if_neg c15] at H; have c15b0 := DL c15; clear c15; obtain rfl := Option.some.inj H; obtain ⟨hcz24_0, hcz24_1, hfz24_0, hfz24_1⟩ := bc2 BK101; go_wp2
       repeat (go_quiet (fail); try go_wp2)
       go_ret; exact ⟨ux, uB1 HB GE101.out⟩

end Go.Proofs.Ytblpdfgplifccaa.P
