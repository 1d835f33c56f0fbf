-- written for this claim by a program (wip/gen/myprint.py over the print tool). Not trusted: Lean checks it.
import Derived.Test.YtdlaaccnaokdnaaPx0
import Derived.Test.YtdlaaccnaokdnaaHUp
import Derived.Test.YtdlaaccnaokdnaaPFImplRankok
namespace Go.Proofs.Ytdlaaccnaokdnaa.P
open Go.RowKit Go.Proofs.YtdlaaccnaokdnaaV.PrintWords Go.Proofs.YtdlaaccnaokdnaaV.PrintLast
set_option linter.unusedVariables false
set_option linter.unusedSimpArgs false

/-! ### impl_RankMany: function 34 -/
mutual
def impl_RankMany.l0 : Nat → Int → List (List Int) → Int → Int → Option (Int)
 | 0, _, _, _, _ => none
 | k + 1, x5, x15, x16, x17 => if x17 < x16 then (if 0 ≤ x17 then (if x17 < (x15.length : Int) then (impl_RankMany.l1 k x5 x15 x16 x17 (rd_L5 x15 x17) ((rd_L5 x15 x17).length : Int) 0) else (none)) else (none)) else (some x5)
def impl_RankMany.l1 : Nat → Int → List (List Int) → Int → Int → List Int → Int → Int → Option (Int)
 | 0, _, _, _, _, _, _, _ => none
 | k + 1, x5, x15, x16, x17, x21, x22, x23 => if x23 < x22 then (if 0 ≤ x23 then (if x23 < (x21.length : Int) then (if (rd x21 x23) = (-1) then (impl_RankMany.l1 k x5 x15 x16 x17 x21 x22 (wrap64 (x23 + 1))) else (impl_RankMany.l1 k (wrap64 (x5 + 1)) x15 x16 x17 x21 x22 (wrap64 (x23 + 1)))) else (none)) else (none)) else (impl_RankMany.l0 k x5 x15 x16 (wrap64 (x17 + 1)))
end
def impl_RankMany.f (k : Nat) (a0_0 : Int) (l0_1 : List (S61)) (l1_0 : List Int) (l1_1 : List (List Int)) (l1_2 : List (List Int)) : Option (Int) := (impl_RankOk.f k a0_0 l0_1 l1_0 l1_1 l1_2).bind fun t103 => (if t103 = true then (impl_RankMany.l0 k 0 l1_2 (l1_2.length : Int) 0) else (some (-1)))
set_option maxHeartbeats 8000000 in
set_option maxRecDepth 100000 in
theorem impl_RankMany.calls (k : Nat) (a0_0 : Int) (A0_1 : Option Addr) (c0_1 : Nat) (l0_1 : List (S61)) (A1_0 : Option Addr) (c1_0 : Nat) (l1_0 : List Int) (A1_1 : Option Addr) (c1_1 : Nat) (l1_1 : List (List Int)) (A1_2 : Option Addr) (c1_2 : Nat) (l1_2 : List (List Int)) (r : Int) (w : World) (hr0_1 : Kd.C k61 w A0_1 l0_1.length l0_1) (hc0_1 : l0_1.length ≤ c0_1) (hr1_0 : Kd.C (Kd.int .i64) w A1_0 l1_0.length l1_0) (hc1_0 : l1_0.length ≤ c1_0) (hr1_1 : Kd.C (Kd.slice 3 (Kd.int .i64)) w A1_1 l1_1.length l1_1) (hc1_1 : l1_1.length ≤ c1_1) (hr1_2 : Kd.C (Kd.slice 3 (Kd.int .i64)) w A1_2 l1_2.length l1_2) (hc1_2 : l1_2.length ≤ c1_2) (h : impl_RankMany.f k a0_0 l0_1 l1_0 l1_1 l1_2 = some r) :
  Calls Try.prog 34 #[.agg #[.int .i64 a0_0, .slice A0_1 l0_1.length c0_1], .agg #[.slice A1_0 l1_0.length c1_0, .slice A1_1 l1_1.length c1_1, .slice A1_2 l1_2.length c1_2]] w fun e w' => e = .returned (.int .i64 r) ∧ Below w.heap.size w w' := by
 have hu35 := Try.underlying35
 have hu37 := Try.underlying37
 have HR0_1 := Aside0.mk hr0_1
 have HC0_1 := Aside0.mk hc0_1
 clear hr0_1 hc0_1
 have HR1_0 := Aside0.mk hr1_0
 have HC1_0 := Aside0.mk hc1_0
 clear hr1_0 hc1_0
 have HR1_1 := Aside0.mk hr1_1
 have HC1_1 := Aside0.mk hc1_1
 clear hr1_1 hc1_1
 have HR1_2 := Aside0.mk hr1_2
 have HC1_2 := Aside0.mk hc1_2
 clear hr1_2 hc1_2
 have HB := Aside0.mk (Below.refl w.heap.size w)
 have H : ((impl_RankOk.f k a0_0 l0_1 l1_0 l1_1 l1_2).bind fun t103 => (if t103 = true then (impl_RankMany.l0 k 0 l1_2 (l1_2.length : Int) 0) else (some (-1)))) = some r := h
 clear h
 replace H := Option.bind_eq_some_iff.mp H
 obtain ⟨t103, A30, H⟩ := H
 replace H : (if t103 = true then (impl_RankMany.l0 k 0 l1_2 (l1_2.length : Int) 0) else (some (-1))) = some r := H
 have A3 := Aside0.mk A30
 clear A30
 by_cases c4 : t103 = true
 ·
  subst c4; rw [if_pos rfl] at H; have H' := Aside0.mk H; clear H; go_enter Try.func34, Try.ntmps34; go_wp2_with (first | ((with_reducible refine gate_dst (N := 2) rfl ?_); refine be (cs := #[.int .i64 a0_0, .slice A0_1 l0_1.length c0_1]) (t := 35) ?_; intro gb101 hg w5 hbox hb; have BK101 := Aside0.mk (hbox); have GW101 := gz w hg (uB0 HB); have GE101 := gz w hg (uB0 HB); replace HB := Aside0.mk (below_step (uB0 HB) hb); clear hb hbox hg) | ((with_reducible refine gate_dst (N := 3) rfl ?_); refine be (cs := #[.slice A1_0 l1_0.length c1_0, .slice A1_1 l1_1.length c1_1, .slice A1_2 l1_2.length c1_2]) (t := 37) ?_; intro gb102 hg w6 hbox hb; have BK102 := Aside0.mk (hbox); have GW102 := gz w hg (uB1 HB GE101.out); have GE102 := gz w hg (uB1 HB GE101.out); replace HB := Aside0.mk (below_step (uB1 HB GE101.out) hb); have NB101_102 := gl hg BK101; have NB102_101 := gr hg BK101; replace BK101 := bb BK101 hb; clear hb hbox hg; have hnb7 := NB101_102.out; have hnc7 := NB102_101.out; obtain ⟨hcz8_0, hcz8_1, hfz8_0, hfz8_1⟩ := bc2 BK101; obtain ⟨hcz9_0, hcz9_1, hcz9_2, hfz9_0, hfz9_1, hfz9_2⟩ := bc3 BK102) | ((with_reducible refine gate_callee (f := 41) rfl ?_); refine goesL_ (some 12) rfl rfl Try.func41 (by kernel_rfl) rfl #[.agg #[.int .i64 a0_0, .slice A0_1 l0_1.length c0_1], .agg #[.slice A1_0 l1_0.length c1_0, .slice A1_1 l1_1.length c1_1, .slice A1_2 l1_2.length c1_2]] rfl ul ?_; (with_reducible refine (impl_RankOk.calls k a0_0 _ _ l0_1 _ _ l1_0 _ _ l1_1 _ _ l1_2 true _ ?side1 ?side2 ?side3 ?side4 ?side5 ?side6 ?side7 ?side8 A3.out).mono ?_); (case side1 => exact uC HR0_1 HB); (case side2 => exact HC0_1.out); (case side3 => exact uC HR1_0 HB); (case side4 => exact HC1_0.out); (case side5 => exact uC HR1_1 HB); (case side6 => exact HC1_1.out); (case side7 => exact uC HR1_2 HB); (case side8 => exact HC1_2.out); rintro e w10 ⟨rfl, hb⟩; refine ⟨_, rfl, ?_⟩; replace BK101 := bb BK101 hb; replace BK102 := bb BK102 hb; replace HB := Aside0.mk (below_step (uB2 HB GE101.out GE102.out) hb); (try clear hb); (try clear hb2); (try clear hk); (try clear hi); obtain ⟨hcz11_0, hcz11_1, hcz11_2, hfz11_0, hfz11_1, hfz11_2⟩ := bc3 BK102)); go_loopg [5, 17] k (fun kq v5 v17 w' => ∃ (x5_1 : Int) (x17_1 : Int), v5 = .int .i64 x5_1 ∧ v17 = .int .i64 x17_1 ∧ Aside0 (impl_RankMany.l0 kq x5_1 l1_2 (l1_2.length : Int) x17_1 = some r) ∧ Aside0 (kq ≤ k) ∧ Aside0 (w'.heap[gb101]? = some (.cells #[.int .i64 a0_0, (.slice A0_1 l0_1.length c0_1)] 35 (0, 0))) ∧ Aside0 (w'.heap[gb102]? = some (.cells #[(.slice A1_0 l1_0.length c1_0), (.slice A1_1 l1_1.length c1_1), (.slice A1_2 l1_2.length c1_2)] 37 (0, 0))) ∧ Aside0 (Below w.heap.size w w'))
  case atStart => exact ⟨(0), (0), ue, ue, H', ⟨Nat.le_refl _⟩, ⟨ub BK101⟩, ⟨ub BK102⟩, ⟨uB2 HB GE101.out GE102.out⟩⟩
  case round =>
   clear H'; try clear c1
   try clear p2
   try clear c3
   try clear c4
   try clear c7
   try clear hcz11_0 hcz11_1 hcz11_2
   try clear hcz8_0 hcz8_1
   try clear hcz9_0 hcz9_1 hcz9_2
   try clear hfz11_0 hfz11_1 hfz11_2
   try clear hfz8_0 hfz8_1
   try clear hfz9_0 hfz9_1 hfz9_2
   obtain ⟨x5_1, x17_1, rfl, rfl, HA, HK1, BK101, BK102, HB⟩ := hrel
   cases gk with
   | zero => exact absurd HA.out (by simp [impl_RankMany.l0])
   | succ k1 =>
    have H := HA.out; clear HA; simp only [impl_RankMany.l0] at H; by_cases c12 : x17_1 < (l1_2.length : Int)
    ·
     rw [if_pos c12] at H; have c12b0 := dl c12; clear c12; by_cases c13 : 0 ≤ x17_1
     ·
      rw [if_pos c13] at H; have c13b0 := de c13; clear c13; by_cases c14 : x17_1 < (l1_2.length : Int)
      ·
       rw [if_pos c14] at H; have c14b0 := dl c14; clear c14; have H' := Aside0.mk H; clear H; have p104 : 0 ≤ (x17_1 : Int) := ua; have q104 : x17_1 < (l1_2.length : Int) := ua; obtain ⟨ad104, A104_0, c104_0, e104, hx104_0, hl104_0, hi104_0⟩ := at_L5 HR1_2.out x17_1 p104 q104
       cases e104
       replace hx104_0 := uc HB hx104_0; have HR104_0 := Aside0.mk hi104_0; have HC104_0 := Aside0.mk hl104_0; clear hi104_0 hl104_0; replace p104 := eq_true p104; replace q104 := eq_true q104; go_wp2; go_loopg [5, 23] k1 (fun kq v5 v23 w' => ∃ (x5_2 : Int) (x23_2 : Int), v5 = .int .i64 x5_2 ∧ v23 = .int .i64 x23_2 ∧ Aside0 (impl_RankMany.l1 kq x5_2 l1_2 (l1_2.length : Int) x17_1 (rd_L5 l1_2 x17_1) ((rd_L5 l1_2 x17_1).length : Int) x23_2 = some r) ∧ Aside0 (kq ≤ k1) ∧ Aside0 (w'.heap[gb101]? = some (.cells #[.int .i64 a0_0, (.slice A0_1 l0_1.length c0_1)] 35 (0, 0))) ∧ Aside0 (w'.heap[gb102]? = some (.cells #[(.slice A1_0 l1_0.length c1_0), (.slice A1_1 l1_1.length c1_1), (.slice (some ad104) l1_2.length c1_2)] 37 (0, 0))) ∧ Aside0 (Below w.heap.size w w'))
       case atStart => exact ⟨(x5_1), (0), ue, ue, H', ⟨Nat.le_refl _⟩, ⟨ub BK101⟩, ⟨ub BK102⟩, ⟨uB2 HB GE101.out GE102.out⟩⟩
       case round =>
        clear H'; try clear c1
        try clear p1
        try clear q1
        try clear hx1
        try clear p2
        try clear c3
        try clear c4
        try clear c7
        try clear c10
        try clear p10
        try clear q10
        try clear hx10
        try clear c12
        try clear c12b0
        try clear c13
        try clear c13b0
        try clear c14
        try clear c14b0
        try clear hcz11_0 hcz11_1 hcz11_2
        try clear hcz8_0 hcz8_1
        try clear hcz9_0 hcz9_1 hcz9_2
        try clear hfz11_0 hfz11_1 hfz11_2
        try clear hfz8_0 hfz8_1
        try clear hfz9_0 hfz9_1 hfz9_2
        try clear hx104_0
        try clear p104
        try clear p2
        try clear q104
        obtain ⟨x5_2, x23_2, rfl, rfl, HA, HK2, BK101, BK102, HB⟩ := hrel
        cases gk with
        | zero => exact absurd HA.out (by simp [impl_RankMany.l1])
        | succ k2 =>
         have H := HA.out; clear HA; simp only [impl_RankMany.l1] at H; by_cases c15 : x23_2 < ((rd_L5 l1_2 x17_1).length : Int)
         ·
          rw [if_pos c15] at H; have c15b0 := dl c15; clear c15; by_cases c16 : 0 ≤ x23_2
          ·
           rw [if_pos c16] at H; have c16b0 := de c16; clear c16; by_cases c17 : x23_2 < ((rd_L5 l1_2 x17_1).length : Int)
           ·
            rw [if_pos c17] at H; have c17b0 := dl c17; clear c17; by_cases c18 : (rd (rd_L5 l1_2 x17_1) x23_2) = (-1)
            ·
             rw [if_pos c18] at H; obtain ⟨c18b0, c18b1⟩ := dq c18; clear c18; have H' := Aside0.mk H; clear H; have p105 : 0 ≤ (x23_2 : Int) := ua; have q105 : x23_2 < ((rd_L5 l1_2 x17_1).length : Int) := ua; obtain ⟨ad105, e105, hx105_0⟩ := Kd.at_int HR104_0.out x23_2 p105 q105
             cases e105
             replace hx105_0 := uc HB hx105_0; replace p105 := eq_true p105; replace q105 := eq_true q105; go_wp2; go_roundg k2
             case measure => have := HK1.out; have := HK2.out; omega
             case rel => exact ⟨(x5_2), (wrap64 (x23_2 + 1)), ue, ue, H', ⟨by have := HK1.out; have := HK2.out; omega⟩, ⟨ub BK101⟩, ⟨ub BK102⟩, ⟨uB2 HB GE101.out GE102.out⟩⟩
            ·
             rw [if_neg c18] at H; obtain ⟨c18b0, c18b1⟩ := dQ c18; have H' := Aside0.mk H; clear H; have p105 : 0 ≤ (x23_2 : Int) := ua; have q105 : x23_2 < ((rd_L5 l1_2 x17_1).length : Int) := ua; obtain ⟨ad105, e105, hx105_0⟩ := Kd.at_int HR104_0.out x23_2 p105 q105
             cases e105
             replace hx105_0 := uc HB hx105_0; replace p105 := eq_true p105; replace q105 := eq_true q105; go_wp2; go_roundg k2
             case measure => have := HK1.out; have := HK2.out; omega
             case rel => exact ⟨(wrap64 (x5_2 + 1)), (wrap64 (x23_2 + 1)), ue, ue, H', ⟨by have := HK1.out; have := HK2.out; omega⟩, ⟨ub BK101⟩, ⟨ub BK102⟩, ⟨uB2 HB GE101.out GE102.out⟩⟩
           ·
            rw [if_neg c17] at H; exact absurd H (by simp)
          ·
           rw [if_neg c16] at H; exact absurd H (by simp)
         ·
          rw [if_neg c15] at H; have c15b0 := DL c15; clear c15; have H' := Aside0.mk H; clear H; go_wp2; go_roundg k2
          case measure => have := HK1.out; have := HK2.out; omega
          case rel => exact ⟨(x5_2), (wrap64 (x17_1 + 1)), ue, ue, H', ⟨by have := HK1.out; have := HK2.out; omega⟩, ⟨ub BK101⟩, ⟨ub BK102⟩, ⟨uB2 HB GE101.out GE102.out⟩⟩
      ·
       rw [if_neg c14] at H; exact absurd H (by simp)
     ·
      rw [if_neg c13] at H; exact absurd H (by simp)
    ·
     rw [if_neg c12] at H; have c12b0 := DL c12; clear c12; obtain rfl := Option.some.inj H; go_wp2; go_ret; exact ⟨ux, uB2 HB GE101.out GE102.out⟩
 ·
  replace c4 := Bool.eq_false_iff.mpr c4; subst c4; rw [if_neg (show ¬ (false = true) by decide)] at H; obtain rfl := Option.some.inj H; go_enter Try.func34, Try.ntmps34; go_wp2_with (first | ((with_reducible refine gate_dst (N := 2) rfl ?_); refine be (cs := #[.int .i64 a0_0, .slice A0_1 l0_1.length c0_1]) (t := 35) ?_; intro gb101 hg w19 hbox hb; have BK101 := Aside0.mk (hbox); have GW101 := gz w hg (uB0 HB); have GE101 := gz w hg (uB0 HB); replace HB := Aside0.mk (below_step (uB0 HB) hb); clear hb hbox hg) | ((with_reducible refine gate_dst (N := 3) rfl ?_); refine be (cs := #[.slice A1_0 l1_0.length c1_0, .slice A1_1 l1_1.length c1_1, .slice A1_2 l1_2.length c1_2]) (t := 37) ?_; intro gb102 hg w20 hbox hb; have BK102 := Aside0.mk (hbox); have GW102 := gz w hg (uB1 HB GE101.out); have GE102 := gz w hg (uB1 HB GE101.out); replace HB := Aside0.mk (below_step (uB1 HB GE101.out) hb); have NB101_102 := gl hg BK101; have NB102_101 := gr hg BK101; replace BK101 := bb BK101 hb; clear hb hbox hg; have hnb21 := NB101_102.out; have hnc21 := NB102_101.out; obtain ⟨hcz22_0, hcz22_1, hfz22_0, hfz22_1⟩ := bc2 BK101; obtain ⟨hcz23_0, hcz23_1, hcz23_2, hfz23_0, hfz23_1, hfz23_2⟩ := bc3 BK102) | ((with_reducible refine gate_callee (f := 41) rfl ?_); refine goesL_ (some 12) rfl rfl Try.func41 (by kernel_rfl) rfl #[.agg #[.int .i64 a0_0, .slice A0_1 l0_1.length c0_1], .agg #[.slice A1_0 l1_0.length c1_0, .slice A1_1 l1_1.length c1_1, .slice A1_2 l1_2.length c1_2]] rfl ul ?_; (with_reducible refine (impl_RankOk.calls k a0_0 _ _ l0_1 _ _ l1_0 _ _ l1_1 _ _ l1_2 false _ ?side1 ?side2 ?side3 ?side4 ?side5 ?side6 ?side7 ?side8 A3.out).mono ?_); (case side1 => exact uC HR0_1 HB); (case side2 => exact HC0_1.out); (case side3 => exact uC HR1_0 HB); (case side4 => exact HC1_0.out); (case side5 => exact uC HR1_1 HB); (case side6 => exact HC1_1.out); (case side7 => exact uC HR1_2 HB); (case side8 => exact HC1_2.out); rintro e w24 ⟨rfl, hb⟩; refine ⟨_, rfl, ?_⟩; replace BK101 := bb BK101 hb; replace BK102 := bb BK102 hb; replace HB := Aside0.mk (below_step (uB2 HB GE101.out GE102.out) hb); (try clear hb); (try clear hb2); (try clear hk); (try clear hi))); go_ret; exact ⟨ux, uB2 HB GE101.out GE102.out⟩

end Go.Proofs.Ytdlaaccnaokdnaa.P
