-- written for this claim by a program (wip/gen/myprint.py over the print tool). Not trusted: Lean checks it.
import Derived.Test.YtdlaaccnaokdnaaPx0
import Derived.Test.YtdlaaccnaokdnaaHUp
namespace Go.Proofs.Ytdlaaccnaokdnaa.P
open Go.RowKit Go.Proofs.YtdlaaccnaokdnaaV.PrintWords Go.Proofs.YtdlaaccnaokdnaaV.PrintLast
set_option linter.unusedVariables false
set_option linter.unusedSimpArgs false

/-! ### impl_Net_cost: function 90 -/
def impl_Net_cost.l0 : Nat → Int → List Int → Int → Int → Int → List (S61) → Option (Int)
 | 0, _, _, _, _, _, _ => none
 | k + 1, x5, x8, x9, x10, x102000, x102001 => if x10 < x9 then (if 0 ≤ x10 then (if x10 < (x8.length : Int) then (if 0 ≤ (rd x8 x10) then (if (rd x8 x10) < (x102001.length : Int) then (impl_Net_cost.l0 k (wrap64 (x5 + ((rd_T61 x102001 (rd x8 x10)).f2))) x8 x9 (wrap64 (x10 + 1)) x102000 x102001) else (none)) else (none)) else (none)) else (none)) else (some x5)
def impl_Net_cost.f (k : Nat) (a0_0 : Int) (l0_1 : List (S61)) (l1 : List Int) : Option (Int) := impl_Net_cost.l0 k 0 l1 (l1.length : Int) 0 a0_0 l0_1
set_option maxHeartbeats 8000000 in
set_option maxRecDepth 100000 in
theorem impl_Net_cost.calls (k : Nat) (a0_0 : Int) (A0_1 : Option Addr) (c0_1 : Nat) (l0_1 : List (S61)) (A1 : Option Addr) (c1 : Nat) (l1 : List Int) (r : Int) (w : World) (hr0_1 : Kd.C k61 w A0_1 l0_1.length l0_1) (hc0_1 : l0_1.length ≤ c0_1) (hr1 : Kd.C (Kd.int .i64) w A1 l1.length l1) (hc1 : l1.length ≤ c1) (h : impl_Net_cost.f k a0_0 l0_1 l1 = some r) :
  Calls Try.prog 90 #[.agg #[.int .i64 a0_0, .slice A0_1 l0_1.length c0_1], .slice A1 l1.length c1] w fun e w' => e = .returned (.int .i64 r) ∧ Below w.heap.size w w' := by
 have hu35 := Try.underlying35
 have HR0_1 := Aside0.mk hr0_1
 have HC0_1 := Aside0.mk hc0_1
 clear hr0_1 hc0_1
 have HR1 := Aside0.mk hr1
 have HC1 := Aside0.mk hc1
 clear hr1 hc1
 have HB := Aside0.mk (Below.refl w.heap.size w)
 have H : (impl_Net_cost.l0 k 0 l1 (l1.length : Int) 0 a0_0 l0_1) = some r := h
 clear h
 have H' := Aside0.mk H
 clear H
 go_enter Try.func90, Try.ntmps90
 go_wp2_with (first | ((with_reducible refine gate_dst (N := 2) rfl ?_); refine be (cs := #[.int .i64 a0_0, .slice A0_1 l0_1.length c0_1]) (t := 35) ?_; intro gb101 hg w3 hbox hb; have BK101 := Aside0.mk (hbox); have GW101 := gz w hg (uB0 HB); have GE101 := gz w hg (uB0 HB); replace HB := Aside0.mk (below_step (uB0 HB) hb); clear hb hbox hg))
 go_loopg [5, 10] k (fun kq v5 v10 w' => ∃ (x5_1 : Int) (x10_1 : Int), v5 = .int .i64 x5_1 ∧ v10 = .int .i64 x10_1 ∧ Aside0 (impl_Net_cost.l0 kq x5_1 l1 (l1.length : Int) x10_1 a0_0 l0_1 = some r) ∧ Aside0 (kq ≤ k) ∧ Aside0 (w'.heap[gb101]? = some (.cells #[.int .i64 a0_0, (.slice A0_1 l0_1.length c0_1)] 35 (0, 0))) ∧ Aside0 (Below w.heap.size w w'))
 case atStart => exact ⟨(0), (0), ue, ue, H', ⟨Nat.le_refl _⟩, ⟨ub BK101⟩, ⟨uB1 HB GE101.out⟩⟩
 case round =>
  clear H'; try clear c1
  try clear p2
  obtain ⟨x5_1, x10_1, rfl, rfl, HA, HK1, BK101, HB⟩ := hrel
  cases gk with
  | zero => exact absurd HA.out (by simp [impl_Net_cost.l0])
  | succ k1 =>
   have H := HA.out; clear HA; simp only [impl_Net_cost.l0] at H; by_cases c4 : x10_1 < (l1.length : Int)
   ·
    rw [if_pos c4] at H; have c4b0 := dl c4; clear c4; by_cases c5 : 0 ≤ x10_1
    ·
     rw [if_pos c5] at H; have c5b0 := de c5; clear c5; by_cases c6 : x10_1 < (l1.length : Int)
     ·
      rw [if_pos c6] at H; have c6b0 := dl c6; clear c6; by_cases c7 : 0 ≤ (rd l1 x10_1)
      ·
       rw [if_pos c7] at H; have c7b0 := de c7; clear c7; by_cases c8 : (rd l1 x10_1) < (l0_1.length : Int)
       ·
        rw [if_pos c8] at H; have c8b0 := dl c8; clear c8; have H' := Aside0.mk H; clear H; have p102 : 0 ≤ (x10_1 : Int) := ua; have q102 : x10_1 < (l1.length : Int) := ua; obtain ⟨ad102, e102, hx102_0⟩ := Kd.at_int HR1.out x10_1 p102 q102
        cases e102
        replace hx102_0 := uc HB hx102_0; replace p102 := eq_true p102; replace q102 := eq_true q102; obtain ⟨hcz9_0, hcz9_1, hfz9_0, hfz9_1⟩ := bc2 BK101; have p103 : 0 ≤ ((rd l1 x10_1) : Int) := ua; have q103 : (rd l1 x10_1) < (l0_1.length : Int) := ua; obtain ⟨ad103, e103, hx103_0, hx103_1, hx103_2, hx103_3, hx103_4⟩ := at_T61 HR0_1.out (rd l1 x10_1) p103 q103
        cases e103
        replace hx103_0 := uc HB hx103_0; replace hx103_1 := uc HB hx103_1; replace hx103_2 := uc HB hx103_2; replace hx103_3 := uc HB hx103_3; replace hx103_4 := uc HB hx103_4; replace p103 := eq_true p103; replace q103 := eq_true q103; go_wp2; go_roundg k1
        case measure => have := HK1.out; omega
        case rel => exact ⟨(wrap64 (x5_1 + ((rd_T61 l0_1 (rd l1 x10_1)).f2))), (wrap64 (x10_1 + 1)), ue, ue, H', ⟨by have := HK1.out; omega⟩, ⟨ub BK101⟩, ⟨uB1 HB GE101.out⟩⟩
       ·
        rw [if_neg c8] at H; exact absurd H (by simp)
      ·
       rw [if_neg c7] at H; exact absurd H (by simp)
     ·
      rw [if_neg c6] at H; exact absurd H (by simp)
    ·
     rw [if_neg c5] at H; exact absurd H (by simp)
   ·
    rw [if_neg c4] at H; have c4b0 := DL c4; clear c4; obtain rfl := Option.some.inj H; go_wp2; go_ret; exact ⟨ux, uB1 HB GE101.out⟩

end Go.Proofs.Ytdlaaccnaokdnaa.P
