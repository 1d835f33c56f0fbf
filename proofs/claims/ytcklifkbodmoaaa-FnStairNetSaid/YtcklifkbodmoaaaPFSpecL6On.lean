-- written for this claim by a program (wip/gen/myprint.py over the print tool). Not trusted: Lean checks it.
import Derived.Test.YtcklifkbodmoaaaPx0
import Derived.Test.YtcklifkbodmoaaaHUp
namespace Go.Proofs.Ytcklifkbodmoaaa.P
open Go.RowKit Go.Proofs.YtcklifkbodmoaaaV.PrintWords Go.Proofs.YtcklifkbodmoaaaV.PrintLast
set_option linter.unusedVariables false
set_option linter.unusedSimpArgs false

/-! ### spec_l6On: function 93 -/
def spec_l6On.f (a0_0 : Int) (a0_1 : Int) (l0_2 : List (S32)) (l1 : List Int) (l2 : List Bool) (a3 : Int) (a4 : Int) (a5_0 : Int) (a5_1 : Int) (a5_2 : Int) (a5_3 : Int) (a5_4 : Int) : Option (Bool) := if 0 ≤ a5_4 then (if a5_4 < (l2.length : Int) then (if rdOf false l2 a5_4 = true then (some true) else (if 0 ≤ a5_0 then (if a5_0 < (l1.length : Int) then (if (rd l1 a5_0) < 99999 then (if (wrap64 ((rd l1 a5_0) + a0_1)) ≤ a5_2 then (some true) else (if a5_0 = a3 then (some (decide (a4 ≤ a5_2))) else (some false))) else (if a5_0 = a3 then (some (decide (a4 ≤ a5_2))) else (some false))) else (none)) else (none))) else (none)) else (none)
set_option maxHeartbeats 8000000 in
set_option maxRecDepth 100000 in
theorem spec_l6On.calls (a0_0 : Int) (a0_1 : Int) (A0_2 : Option Addr) (c0_2 : Nat) (l0_2 : List (S32)) (A1 : Option Addr) (c1 : Nat) (l1 : List Int) (A2 : Option Addr) (c2 : Nat) (l2 : List Bool) (a3 : Int) (a4 : Int) (a5_0 : Int) (a5_1 : Int) (a5_2 : Int) (a5_3 : Int) (a5_4 : Int) (r : Bool) (w : World) (hr0_2 : Kd.C k32 w A0_2 l0_2.length l0_2) (hc0_2 : l0_2.length ≤ c0_2) (hr1 : Kd.C (Kd.int .i64) w A1 l1.length l1) (hc1 : l1.length ≤ c1) (hr2 : Kd.C Kd.bool w A2 l2.length l2) (hc2 : l2.length ≤ c2) (h : spec_l6On.f a0_0 a0_1 l0_2 l1 l2 a3 a4 a5_0 a5_1 a5_2 a5_3 a5_4 = some r) :
  Calls Try.prog 93 #[.agg #[.int .i64 a0_0, .int .i64 a0_1, .slice A0_2 l0_2.length c0_2], .slice A1 l1.length c1, .slice A2 l2.length c2, .int .i64 a3, .int .i64 a4, .agg #[.int .i64 a5_0, .int .i64 a5_1, .int .i64 a5_2, .int .i64 a5_3, .int .i64 a5_4]] w fun e w' => e = .returned (.bool r) ∧ Below w.heap.size w w' := by
 have hu25 := Try.underlying25
 have hu32 := Try.underlying32
 have HR0_2 := Aside0.mk hr0_2
 have HC0_2 := Aside0.mk hc0_2
 clear hr0_2 hc0_2
 have HR1 := Aside0.mk hr1
 have HC1 := Aside0.mk hc1
 clear hr1 hc1
 have HR2 := Aside0.mk hr2
 have HC2 := Aside0.mk hc2
 clear hr2 hc2
 have HB := Aside0.mk (Below.refl w.heap.size w)
 have H : (if 0 ≤ a5_4 then (if a5_4 < (l2.length : Int) then (if rdOf false l2 a5_4 = true then (some true) else (if 0 ≤ a5_0 then (if a5_0 < (l1.length : Int) then (if (rd l1 a5_0) < 99999 then (if (wrap64 ((rd l1 a5_0) + a0_1)) ≤ a5_2 then (some true) else (if a5_0 = a3 then (some (decide (a4 ≤ a5_2))) else (some false))) else (if a5_0 = a3 then (some (decide (a4 ≤ a5_2))) else (some false))) else (none)) else (none))) else (none)) else (none)) = some r := h
 clear h
 by_cases c7 : 0 ≤ a5_4
 ·
  rw [if_pos c7] at H; have c7b0 := de c7; clear c7; by_cases c8 : a5_4 < (l2.length : Int)
  ·
   rw [if_pos c8] at H; have c8b0 := dl c8; clear c8; obtain ⟨bq9, hbq9⟩ : ∃ b_ : Bool, b_ = (rdOf false l2 a5_4) := ⟨_, rfl⟩
   replace H : (if bq9 = true then (some true) else (if 0 ≤ a5_0 then (if a5_0 < (l1.length : Int) then (if (rd l1 a5_0) < 99999 then (if (wrap64 ((rd l1 a5_0) + a0_1)) ≤ a5_2 then (some true) else (if a5_0 = a3 then (some (decide (a4 ≤ a5_2))) else (some false))) else (if a5_0 = a3 then (some (decide (a4 ≤ a5_2))) else (some false))) else (none)) else (none))) = some r := by rw [← hbq9] at H; exact H
   have Nbq9 := Aside0.mk hbq9; clear hbq9; by_cases c10 : bq9 = true
   ·
    subst c10; rw [if_pos rfl] at H; obtain rfl := Option.some.inj H; go_enter Try.func93, Try.ntmps93; go_wp2_with (first | ((with_reducible refine gate_dst (N := 6) rfl ?_); refine be (cs := #[.int .i64 a0_0, .int .i64 a0_1, .slice A0_2 l0_2.length c0_2]) (t := 25) ?_; intro gb101 hg w11 hbox hb; have BK101 := Aside0.mk (hbox); have GW101 := gz w hg (uB0 HB); have GE101 := gz w hg (uB0 HB); replace HB := Aside0.mk (below_step (uB0 HB) hb); clear hb hbox hg) | ((with_reducible refine gate_dst (N := 11) rfl ?_); refine be (cs := #[.int .i64 a5_0, .int .i64 a5_1, .int .i64 a5_2, .int .i64 a5_3, .int .i64 a5_4]) (t := 32) ?_; intro gb102 hg w12 hbox hb; have BK102 := Aside0.mk (hbox); have GW102 := gz w hg (uB1 HB GE101.out); have GE102 := gz w hg (uB1 HB GE101.out); replace HB := Aside0.mk (below_step (uB1 HB GE101.out) hb); have NB101_102 := gl hg BK101; have NB102_101 := gr hg BK101; replace BK101 := bb BK101 hb; clear hb hbox hg; have hnb13 := NB102_101.out; have hnc13 := NB101_102.out; obtain ⟨hcz14_0, hcz14_1, hcz14_2, hcz14_3, hcz14_4, hfz14_0, hfz14_1, hfz14_2, hfz14_3, hfz14_4⟩ := bc5 BK102; have p103 : 0 ≤ (a5_4 : Int) := ua; have q103 : a5_4 < (l2.length : Int) := ua; obtain ⟨ad103, e103, hx103_0⟩ := Kd.at_bool HR2.out a5_4 p103 q103; (try rw [← Nbq9.out] at hx103_0); cases e103; replace hx103_0 := uc HB hx103_0; replace p103 := eq_true p103; replace q103 := eq_true q103))
    repeat (go_quiet (fail); try go_wp2_with (fail))
    go_ret; exact ⟨ux, uB2 HB GE101.out GE102.out⟩
   ·
    replace c10 := Bool.eq_false_iff.mpr c10; subst c10; rw [if_neg (show ¬ (false = true) by decide)] at H; by_cases c15 : 0 ≤ a5_0
    ·
     rw [if_pos c15] at H; have c15b0 := de c15; clear c15; by_cases c16 : a5_0 < (l1.length : Int)
     ·
      rw [if_pos c16] at H; have c16b0 := dl c16; clear c16; by_cases c17 : (rd l1 a5_0) < 99999
      ·
       rw [if_pos c17] at H; have c17b0 := dl c17; clear c17; by_cases c18 : (wrap64 ((rd l1 a5_0) + a0_1)) ≤ a5_2
       ·
        rw [if_pos c18] at H; have c18b0 := de c18; clear c18; obtain rfl := Option.some.inj H; go_enter Try.func93, Try.ntmps93; go_wp2_with (first | ((with_reducible refine gate_dst (N := 6) rfl ?_); refine be (cs := #[.int .i64 a0_0, .int .i64 a0_1, .slice A0_2 l0_2.length c0_2]) (t := 25) ?_; intro gb101 hg w19 hbox hb; have BK101 := Aside0.mk (hbox); have GW101 := gz w hg (uB0 HB); have GE101 := gz w hg (uB0 HB); replace HB := Aside0.mk (below_step (uB0 HB) hb); clear hb hbox hg) | ((with_reducible refine gate_dst (N := 11) rfl ?_); refine be (cs := #[.int .i64 a5_0, .int .i64 a5_1, .int .i64 a5_2, .int .i64 a5_3, .int .i64 a5_4]) (t := 32) ?_; intro gb102 hg w20 hbox hb; have BK102 := Aside0.mk (hbox); have GW102 := gz w hg (uB1 HB GE101.out); have GE102 := gz w hg (uB1 HB GE101.out); replace HB := Aside0.mk (below_step (uB1 HB GE101.out) hb); have NB101_102 := gl hg BK101; have NB102_101 := gr hg BK101; replace BK101 := bb BK101 hb; clear hb hbox hg; have hnb21 := NB102_101.out; have hnc21 := NB101_102.out; obtain ⟨hcz22_0, hcz22_1, hcz22_2, hcz22_3, hcz22_4, hfz22_0, hfz22_1, hfz22_2, hfz22_3, hfz22_4⟩ := bc5 BK102; have p103 : 0 ≤ (a5_4 : Int) := ua; have q103 : a5_4 < (l2.length : Int) := ua; obtain ⟨ad103, e103, hx103_0⟩ := Kd.at_bool HR2.out a5_4 p103 q103; (try rw [← Nbq9.out] at hx103_0); cases e103; replace hx103_0 := uc HB hx103_0; replace p103 := eq_true p103; replace q103 := eq_true q103; have p104 : 0 ≤ (a5_0 : Int) := ua; have q104 : a5_0 < (l1.length : Int) := ua; obtain ⟨ad104, e104, hx104_0⟩ := Kd.at_int HR1.out a5_0 p104 q104; cases e104; replace hx104_0 := uc HB hx104_0; replace p104 := eq_true p104; replace q104 := eq_true q104; have p105 : 0 ≤ (a5_0 : Int) := ua; have q105 : a5_0 < (l1.length : Int) := ua; obtain ⟨ad105, e105, hx105_0⟩ := Kd.at_int HR1.out a5_0 p105 q105; obtain rfl : ad104 = ad105 := (by injection e105); replace hx105_0 := uc HB hx105_0; replace p105 := eq_true p105; replace q105 := eq_true q105; obtain ⟨hcz23_0, hcz23_1, hcz23_2, hfz23_0, hfz23_1, hfz23_2⟩ := bc3 BK101))
        repeat (go_quiet (fail); try go_wp2_with (fail))
        go_ret; exact ⟨ux, uB2 HB GE101.out GE102.out⟩
       ·
        rw [if_neg c18] at H; have c18b0 := DE c18; clear c18; by_cases c24 : a5_0 = a3
        ·
         rw [if_pos c24] at H; obtain ⟨c24b0, c24b1⟩ := dq c24; clear c24; obtain rfl := Option.some.inj H; go_enter Try.func93, Try.ntmps93; go_wp2_with (first | ((with_reducible refine gate_dst (N := 6) rfl ?_); refine be (cs := #[.int .i64 a0_0, .int .i64 a0_1, .slice A0_2 l0_2.length c0_2]) (t := 25) ?_; intro gb101 hg w25 hbox hb; have BK101 := Aside0.mk (hbox); have GW101 := gz w hg (uB0 HB); have GE101 := gz w hg (uB0 HB); replace HB := Aside0.mk (below_step (uB0 HB) hb); clear hb hbox hg) | ((with_reducible refine gate_dst (N := 11) rfl ?_); refine be (cs := #[.int .i64 a5_0, .int .i64 a5_1, .int .i64 a5_2, .int .i64 a5_3, .int .i64 a5_4]) (t := 32) ?_; intro gb102 hg w26 hbox hb; have BK102 := Aside0.mk (hbox); have GW102 := gz w hg (uB1 HB GE101.out); have GE102 := gz w hg (uB1 HB GE101.out); replace HB := Aside0.mk (below_step (uB1 HB GE101.out) hb); have NB101_102 := gl hg BK101; have NB102_101 := gr hg BK101; replace BK101 := bb BK101 hb; clear hb hbox hg; have hnb27 := NB102_101.out; have hnc27 := NB101_102.out; obtain ⟨hcz28_0, hcz28_1, hcz28_2, hcz28_3, hcz28_4, hfz28_0, hfz28_1, hfz28_2, hfz28_3, hfz28_4⟩ := bc5 BK102; have p103 : 0 ≤ (a5_4 : Int) := ua; have q103 : a5_4 < (l2.length : Int) := ua; obtain ⟨ad103, e103, hx103_0⟩ := Kd.at_bool HR2.out a5_4 p103 q103; (try rw [← Nbq9.out] at hx103_0); cases e103; replace hx103_0 := uc HB hx103_0; replace p103 := eq_true p103; replace q103 := eq_true q103; have p104 : 0 ≤ (a5_0 : Int) := ua; have q104 : a5_0 < (l1.length : Int) := ua; obtain ⟨ad104, e104, hx104_0⟩ := Kd.at_int HR1.out a5_0 p104 q104; cases e104; replace hx104_0 := uc HB hx104_0; replace p104 := eq_true p104; replace q104 := eq_true q104; have p105 : 0 ≤ (a5_0 : Int) := ua; have q105 : a5_0 < (l1.length : Int) := ua; obtain ⟨ad105, e105, hx105_0⟩ := Kd.at_int HR1.out a5_0 p105 q105; obtain rfl : ad104 = ad105 := (by injection e105); replace hx105_0 := uc HB hx105_0; replace p105 := eq_true p105; replace q105 := eq_true q105; obtain ⟨hcz29_0, hcz29_1, hcz29_2, hfz29_0, hfz29_1, hfz29_2⟩ := bc3 BK101))
         repeat (go_quiet (fail); try go_wp2_with (fail))
         go_ret; exact ⟨ux, uB2 HB GE101.out GE102.out⟩
        ·
         rw [if_neg c24] at H; obtain ⟨c24b0, c24b1⟩ := dQ c24; obtain rfl := Option.some.inj H; go_enter Try.func93, Try.ntmps93; go_wp2_with (first | ((with_reducible refine gate_dst (N := 6) rfl ?_); refine be (cs := #[.int .i64 a0_0, .int .i64 a0_1, .slice A0_2 l0_2.length c0_2]) (t := 25) ?_; intro gb101 hg w30 hbox hb; have BK101 := Aside0.mk (hbox); have GW101 := gz w hg (uB0 HB); have GE101 := gz w hg (uB0 HB); replace HB := Aside0.mk (below_step (uB0 HB) hb); clear hb hbox hg) | ((with_reducible refine gate_dst (N := 11) rfl ?_); refine be (cs := #[.int .i64 a5_0, .int .i64 a5_1, .int .i64 a5_2, .int .i64 a5_3, .int .i64 a5_4]) (t := 32) ?_; intro gb102 hg w31 hbox hb; have BK102 := Aside0.mk (hbox); have GW102 := gz w hg (uB1 HB GE101.out); have GE102 := gz w hg (uB1 HB GE101.out); replace HB := Aside0.mk (below_step (uB1 HB GE101.out) hb); have NB101_102 := gl hg BK101; have NB102_101 := gr hg BK101; replace BK101 := bb BK101 hb; clear hb hbox hg; have hnb32 := NB102_101.out; have hnc32 := NB101_102.out; obtain ⟨hcz33_0, hcz33_1, hcz33_2, hcz33_3, hcz33_4, hfz33_0, hfz33_1, hfz33_2, hfz33_3, hfz33_4⟩ := bc5 BK102; have p103 : 0 ≤ (a5_4 : Int) := ua; have q103 : a5_4 < (l2.length : Int) := ua; obtain ⟨ad103, e103, hx103_0⟩ := Kd.at_bool HR2.out a5_4 p103 q103; (try rw [← Nbq9.out] at hx103_0); cases e103; replace hx103_0 := uc HB hx103_0; replace p103 := eq_true p103; replace q103 := eq_true q103; have p104 : 0 ≤ (a5_0 : Int) := ua; have q104 : a5_0 < (l1.length : Int) := ua; obtain ⟨ad104, e104, hx104_0⟩ := Kd.at_int HR1.out a5_0 p104 q104; cases e104; replace hx104_0 := uc HB hx104_0; replace p104 := eq_true p104; replace q104 := eq_true q104; have p105 : 0 ≤ (a5_0 : Int) := ua; have q105 : a5_0 < (l1.length : Int) := ua; obtain ⟨ad105, e105, hx105_0⟩ := Kd.at_int HR1.out a5_0 p105 q105; obtain rfl : ad104 = ad105 := (by injection e105); replace hx105_0 := uc HB hx105_0; replace p105 := eq_true p105; replace q105 := eq_true q105; obtain ⟨hcz34_0, hcz34_1, hcz34_2, hfz34_0, hfz34_1, hfz34_2⟩ := bc3 BK101))
         repeat (go_quiet (fail); try go_wp2_with (fail))
         go_ret; exact ⟨ux, uB2 HB GE101.out GE102.out⟩
      ·
       rw [if_neg c17] at H; have c17b0 := DL c17; clear c17; by_cases c35 : a5_0 = a3
       ·
        rw [if_pos c35] at H; obtain ⟨c35b0, c35b1⟩ := dq c35; clear c35; obtain rfl := Option.some.inj H; go_enter Try.func93, Try.ntmps93; go_wp2_with (first | ((with_reducible refine gate_dst (N := 6) rfl ?_); refine be (cs := #[.int .i64 a0_0, .int .i64 a0_1, .slice A0_2 l0_2.length c0_2]) (t := 25) ?_; intro gb101 hg w36 hbox hb; have BK101 := Aside0.mk (hbox); have GW101 := gz w hg (uB0 HB); have GE101 := gz w hg (uB0 HB); replace HB := Aside0.mk (below_step (uB0 HB) hb); clear hb hbox hg) | ((with_reducible refine gate_dst (N := 11) rfl ?_); refine be (cs := #[.int .i64 a5_0, .int .i64 a5_1, .int .i64 a5_2, .int .i64 a5_3, .int .i64 a5_4]) (t := 32) ?_; intro gb102 hg w37 hbox hb; have BK102 := Aside0.mk (hbox); have GW102 := gz w hg (uB1 HB GE101.out); have GE102 := gz w hg (uB1 HB GE101.out); replace HB := Aside0.mk (below_step (uB1 HB GE101.out) hb); have NB101_102 := gl hg BK101; have NB102_101 := gr hg BK101; replace BK101 := bb BK101 hb; clear hb hbox hg; have hnb38 := NB102_101.out; have hnc38 := NB101_102.out; obtain ⟨hcz39_0, hcz39_1, hcz39_2, hcz39_3, hcz39_4, hfz39_0, hfz39_1, hfz39_2, hfz39_3, hfz39_4⟩ := bc5 BK102; have p103 : 0 ≤ (a5_4 : Int) := ua; have q103 : a5_4 < (l2.length : Int) := ua; obtain ⟨ad103, e103, hx103_0⟩ := Kd.at_bool HR2.out a5_4 p103 q103; (try rw [← Nbq9.out] at hx103_0); cases e103; replace hx103_0 := uc HB hx103_0; replace p103 := eq_true p103; replace q103 := eq_true q103; have p104 : 0 ≤ (a5_0 : Int) := ua; have q104 : a5_0 < (l1.length : Int) := ua; obtain ⟨ad104, e104, hx104_0⟩ := Kd.at_int HR1.out a5_0 p104 q104; cases e104; replace hx104_0 := uc HB hx104_0; replace p104 := eq_true p104; replace q104 := eq_true q104))
        repeat (go_quiet (fail); try go_wp2_with (fail))
        go_ret; exact ⟨ux, uB2 HB GE101.out GE102.out⟩
       ·
        rw [if_neg c35] at H; obtain ⟨c35b0, c35b1⟩ := dQ c35; obtain rfl := Option.some.inj H; go_enter Try.func93, Try.ntmps93; go_wp2_with (first | ((with_reducible refine gate_dst (N := 6) rfl ?_); refine be (cs := #[.int .i64 a0_0, .int .i64 a0_1, .slice A0_2 l0_2.length c0_2]) (t := 25) ?_; intro gb101 hg w40 hbox hb; have BK101 := Aside0.mk (hbox); have GW101 := gz w hg (uB0 HB); have GE101 := gz w hg (uB0 HB); replace HB := Aside0.mk (below_step (uB0 HB) hb); clear hb hbox hg) | ((with_reducible refine gate_dst (N := 11) rfl ?_); refine be (cs := #[.int .i64 a5_0, .int .i64 a5_1, .int .i64 a5_2, .int .i64 a5_3, .int .i64 a5_4]) (t := 32) ?_; intro gb102 hg w41 hbox hb; have BK102 := Aside0.mk (hbox); have GW102 := gz w hg (uB1 HB GE101.out); have GE102 := gz w hg (uB1 HB GE101.out); replace HB := Aside0.mk (below_step (uB1 HB GE101.out) hb); have NB101_102 := gl hg BK101; have NB102_101 := gr hg BK101; replace BK101 := bb BK101 hb; clear hb hbox hg; have hnb42 := NB102_101.out; have hnc42 := NB101_102.out; obtain ⟨hcz43_0, hcz43_1, hcz43_2, hcz43_3, hcz43_4, hfz43_0, hfz43_1, hfz43_2, hfz43_3, hfz43_4⟩ := bc5 BK102; have p103 : 0 ≤ (a5_4 : Int) := ua; have q103 : a5_4 < (l2.length : Int) := ua; obtain ⟨ad103, e103, hx103_0⟩ := Kd.at_bool HR2.out a5_4 p103 q103; (try rw [← Nbq9.out] at hx103_0); cases e103; replace hx103_0 := uc HB hx103_0; replace p103 := eq_true p103; replace q103 := eq_true q103; have p104 : 0 ≤ (a5_0 : Int) := ua; have q104 : a5_0 < (l1.length : Int) := ua; obtain ⟨ad104, e104, hx104_0⟩ := Kd.at_int HR1.out a5_0 p104 q104; cases e104; replace hx104_0 := uc HB hx104_0; replace p104 := eq_true p104; replace q104 := eq_true q104))
        repeat (go_quiet (fail); try go_wp2_with (fail))
        go_ret; exact ⟨ux, uB2 HB GE101.out GE102.out⟩
     ·
      rw [if_neg c16] at H; exact absurd H (by simp)
    ·
     rw [if_neg c15] at H; exact absurd H (by simp)
  ·
   rw [if_neg c8] at H; exact absurd H (by simp)
 ·
  rw [if_neg c7] at H; exact absurd H (by simp)

end Go.Proofs.Ytcklifkbodmoaaa.P
