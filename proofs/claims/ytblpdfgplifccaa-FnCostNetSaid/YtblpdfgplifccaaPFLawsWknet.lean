-- written for this claim by a program (wip/gen/myprint.py over the print tool). Not trusted: Lean checks it.
import Derived.Test.YtblpdfgplifccaaPx0
import Derived.Test.YtblpdfgplifccaaHUp
import Derived.Test.YtblpdfgplifccaaPx1
namespace Go.Proofs.Ytblpdfgplifccaa.P
open Go.RowKit Go.Proofs.YtblpdfgplifccaaV.PrintWords Go.Proofs.YtblpdfgplifccaaV.PrintLast
set_option linter.unusedVariables false
set_option linter.unusedSimpArgs false

attribute [local go_sem high] eqA33
/-! ### laws_wkNet: function 19 -/
mutual
def laws_wkNet.j0 : Nat → Bool → Int → List (S33) → Int → List (S33) → Option (Bool)
 | 0, _, _, _, _, _ => none
 | k + 1, x19, x102000, x102001, x103000, x103001 => if x19 = true then (some false) else (laws_wkNet.l0 k 0 x102000 x102001 x103000 x103001)
def laws_wkNet.l0 : Nat → Int → Int → List (S33) → Int → List (S33) → Option (Bool)
 | 0, _, _, _, _, _ => none
 | k + 1, x5, x102000, x102001, x103000, x103001 => if x5 < (x102001.length : Int) then (if 0 ≤ x5 then (if x5 < (x103001.length : Int) then (if (!(((rd_T33 x102001 x5).f0) == ((rd_T33 x103001 x5).f0)) || (!(((rd_T33 x102001 x5).f1) == ((rd_T33 x103001 x5).f1)) || (!(((rd_T33 x102001 x5).f2) == ((rd_T33 x103001 x5).f2)) || (!(((rd_T33 x102001 x5).f3) == ((rd_T33 x103001 x5).f3)) || (!(((rd_T33 x102001 x5).f4) == ((rd_T33 x103001 x5).f4))))))) = true then (some false) else (laws_wkNet.l0 k (wrap64 (x5 + 1)) x102000 x102001 x103000 x103001)) else (none)) else (none)) else (some true)
end
def laws_wkNet.f (k : Nat) (a0_0 : Int) (l0_1 : List (S33)) (a1_0 : Int) (l1_1 : List (S33)) : Option (Bool) := if a0_0 = a1_0 then (laws_wkNet.j0 k ((l0_1.length : Int) != (l1_1.length : Int)) a0_0 l0_1 a1_0 l1_1) else (laws_wkNet.j0 k true a0_0 l0_1 a1_0 l1_1)
set_option maxHeartbeats 8000000 in
set_option maxRecDepth 100000 in
theorem laws_wkNet.calls (k : Nat) (a0_0 : Int) (A0_1 : Option Addr) (c0_1 : Nat) (l0_1 : List (S33)) (a1_0 : Int) (A1_1 : Option Addr) (c1_1 : Nat) (l1_1 : List (S33)) (r : Bool) (w : World) (hr0_1 : Kd.C k33 w A0_1 l0_1.length l0_1) (hc0_1 : l0_1.length ≤ c0_1) (hr1_1 : Kd.C k33 w A1_1 l1_1.length l1_1) (hc1_1 : l1_1.length ≤ c1_1) (h : laws_wkNet.f k a0_0 l0_1 a1_0 l1_1 = some r) :
  Calls Try.prog 19 #[.agg #[.int .i64 a0_0, .slice A0_1 l0_1.length c0_1], .agg #[.int .i64 a1_0, .slice A1_1 l1_1.length c1_1]] w fun e w' => e = .returned (.bool r) ∧ Below w.heap.size w w' := by
 have hu25 := Try.underlying25
 have hu33 := Try.underlying33
 have HR0_1 := Aside0.mk hr0_1
 have HC0_1 := Aside0.mk hc0_1
 clear hr0_1 hc0_1
 have HR1_1 := Aside0.mk hr1_1
 have HC1_1 := Aside0.mk hc1_1
 clear hr1_1 hc1_1
 have HB := Aside0.mk (Below.refl w.heap.size w)
 have H : (if a0_0 = a1_0 then (laws_wkNet.j0 k ((l0_1.length : Int) != (l1_1.length : Int)) a0_0 l0_1 a1_0 l1_1) else (laws_wkNet.j0 k true a0_0 l0_1 a1_0 l1_1)) = some r := h
 clear h
 have HC3 := Aside0.mk H
 clear H
 go_enter Try.func19, Try.ntmps19
 go_upto_region 1 with (first | ((with_reducible refine gate_dst (N := 2) rfl ?_); refine be (cs := #[.int .i64 a0_0, .slice A0_1 l0_1.length c0_1]) (t := 25) ?_; intro gb101 hg w4 hbox hb; have BK101 := Aside0.mk (hbox); have GW101 := gz w hg (uB0 HB); have GE101 := gz w hg (uB0 HB); replace HB := Aside0.mk (below_step (uB0 HB) hb); clear hb hbox hg) | ((with_reducible refine gate_dst (N := 3) rfl ?_); refine be (cs := #[.int .i64 a1_0, .slice A1_1 l1_1.length c1_1]) (t := 25) ?_; intro gb102 hg w5 hbox hb; have BK102 := Aside0.mk (hbox); have GW102 := gz w hg (uB1 HB GE101.out); have GE102 := gz w hg (uB1 HB GE101.out); replace HB := Aside0.mk (below_step (uB1 HB GE101.out) hb); have NB101_102 := gl hg BK101; have NB102_101 := gr hg BK101; replace BK101 := bb BK101 hb; clear hb hbox hg))
 repeat (go_quiet (first | ((with_reducible refine gate_dst (N := 2) rfl ?_); refine be (cs := #[.int .i64 a0_0, .slice A0_1 l0_1.length c0_1]) (t := 25) ?_; intro gb101 hg w4 hbox hb; have BK101 := Aside0.mk (hbox); have GW101 := gz w hg (uB0 HB); have GE101 := gz w hg (uB0 HB); replace HB := Aside0.mk (below_step (uB0 HB) hb); clear hb hbox hg) | ((with_reducible refine gate_dst (N := 3) rfl ?_); refine be (cs := #[.int .i64 a1_0, .slice A1_1 l1_1.length c1_1]) (t := 25) ?_; intro gb102 hg w5 hbox hb; have BK102 := Aside0.mk (hbox); have GW102 := gz w hg (uB1 HB GE101.out); have GE102 := gz w hg (uB1 HB GE101.out); replace HB := Aside0.mk (below_step (uB1 HB GE101.out) hb); have NB101_102 := gl hg BK101; have NB102_101 := gr hg BK101; replace BK101 := bb BK101 hb; clear hb hbox hg)); go_upto_region 1 with (first | ((with_reducible refine gate_dst (N := 2) rfl ?_); refine be (cs := #[.int .i64 a0_0, .slice A0_1 l0_1.length c0_1]) (t := 25) ?_; intro gb101 hg w4 hbox hb; have BK101 := Aside0.mk (hbox); have GW101 := gz w hg (uB0 HB); have GE101 := gz w hg (uB0 HB); replace HB := Aside0.mk (below_step (uB0 HB) hb); clear hb hbox hg) | ((with_reducible refine gate_dst (N := 3) rfl ?_); refine be (cs := #[.int .i64 a1_0, .slice A1_1 l1_1.length c1_1]) (t := 25) ?_; intro gb102 hg w5 hbox hb; have BK102 := Aside0.mk (hbox); have GW102 := gz w hg (uB1 HB GE101.out); have GE102 := gz w hg (uB1 HB GE101.out); replace HB := Aside0.mk (below_step (uB1 HB GE101.out) hb); have NB101_102 := gl hg BK101; have NB102_101 := gr hg BK101; replace BK101 := bb BK101 hb; clear hb hbox hg)))
 (try simp only [Act.put, List.setIfInBounds_toArray, List.set_cons_zero, List.set_cons_succ])
 go_cut [19] (fun v19 wc => ∃ (kq : Nat) (x19_2 : Bool), v19 = .bool x19_2 ∧ Aside0 (laws_wkNet.j0 kq x19_2 a0_0 l0_1 a1_0 l1_1 = some r) ∧ Aside0 (kq ≤ k) ∧ Aside0 (wc.heap[gb101]? = some (.cells #[.int .i64 a0_0, (.slice A0_1 l0_1.length c0_1)] 25 (0, 0))) ∧ Aside0 (wc.heap[gb102]? = some (.cells #[.int .i64 a1_0, (.slice A1_1 l1_1.length c1_1)] 25 (0, 0))) ∧ Aside0 (Below w.heap.size w wc))
 case first =>
  have H := HC3.out; clear HC3; by_cases c6 : a0_0 = a1_0
  ·
   rw [if_pos c6] at H; obtain ⟨c6b0, c6b1⟩ := dq c6; clear c6; (first | rw [c6b0] | (simp only [i64_w, i32_w]; rw [c6b0]) | skip); have H' := Aside0.mk H; clear H; have hnb7 := NB101_102.out; have hnc7 := NB102_101.out; obtain ⟨hcz8_0, hcz8_1, hfz8_0, hfz8_1⟩ := bc2 BK101; obtain ⟨hcz9_0, hcz9_1, hfz9_0, hfz9_1⟩ := bc2 BK102; go_wp2
   repeat (go_quiet (fail); try go_wp2)
   go_meet
   case rel => exact ⟨_, (((l0_1.length : Int) != (l1_1.length : Int))), ue, H', ⟨by first | omega | exact Nat.le_refl _⟩, ⟨ub BK101⟩, ⟨ub BK102⟩, ⟨uB2 HB GE101.out GE102.out⟩⟩
  ·
   rw [if_neg c6] at H; obtain ⟨c6b0, c6b1⟩ := dQ c6; (first | rw [c6b0] | (simp only [i64_w, i32_w]; rw [c6b0]) | skip); have H' := Aside0.mk H; clear H; have hnb10 := NB101_102.out; have hnc10 := NB102_101.out; obtain ⟨hcz11_0, hcz11_1, hfz11_0, hfz11_1⟩ := bc2 BK101; obtain ⟨hcz12_0, hcz12_1, hfz12_0, hfz12_1⟩ := bc2 BK102; go_wp2
   repeat (go_quiet (fail); try go_wp2)
   go_meet
   case rel => exact ⟨_, (true), ue, H', ⟨by first | omega | exact Nat.le_refl _⟩, ⟨ub BK101⟩, ⟨ub BK102⟩, ⟨uB2 HB GE101.out GE102.out⟩⟩
 case rest =>
  clear HC3; try clear c1
  try clear p2
  try clear c6
  try clear c6b0
  try clear c6b1
  try clear c7
  try clear c10
  try clear hcz11_0 hcz11_1
  try clear hcz12_0 hcz12_1
  try clear hcz8_0 hcz8_1
  try clear hcz9_0 hcz9_1
  try clear hfz11_0 hfz11_1
  try clear hfz12_0 hfz12_1
  try clear hfz8_0 hfz8_1
  try clear hfz9_0 hfz9_1
  obtain ⟨kq, x19_2, rfl, HA, HJ2, BK101, BK102, HB⟩ := hcut
  cases kq with
  | zero => exact absurd HA.out (by simp [laws_wkNet.j0])
  | succ kj2 =>
   have H := HA.out; clear HA; simp only [laws_wkNet.j0] at H; by_cases c13 : x19_2 = true
   ·
    subst c13; rw [if_pos rfl] at H; obtain rfl := Option.some.inj H; go_wp2
    repeat (go_quiet (fail); try go_wp2)
    go_ret; exact ⟨ux, uB2 HB GE101.out GE102.out⟩
   ·
    replace c13 := Bool.eq_false_iff.mpr c13; subst c13; rw [if_neg (show ¬ (false = true) by decide)] at H; have H' := Aside0.mk H; clear H; go_wp2
    repeat (go_quiet (fail); try go_wp2)
    go_loopg [5] kj2 (fun kq v5 w' => ∃ (x5_2 : Int), v5 = .int .i64 x5_2 ∧ Aside0 (laws_wkNet.l0 kq x5_2 a0_0 l0_1 a1_0 l1_1 = some r) ∧ Aside0 (kq ≤ kj2) ∧ Aside0 (w'.heap[gb101]? = some (.cells #[.int .i64 a0_0, (.slice A0_1 l0_1.length c0_1)] 25 (0, 0))) ∧ Aside0 (w'.heap[gb102]? = some (.cells #[.int .i64 a1_0, (.slice A1_1 l1_1.length c1_1)] 25 (0, 0))) ∧ Aside0 (Below w.heap.size w w'))
    case atStart => exact ⟨(0), ue, H', ⟨Nat.le_refl _⟩, ⟨ub BK101⟩, ⟨ub BK102⟩, ⟨uB2 HB GE101.out GE102.out⟩⟩
    case round =>
     clear H'; try clear c1
     try clear p2
     try clear c6
     try clear c6b0
     try clear c6b1
     try clear c7
     try clear c10
     try clear c13
     try clear hcz11_0 hcz11_1
     try clear hcz12_0 hcz12_1
     try clear hcz8_0 hcz8_1
     try clear hcz9_0 hcz9_1
     try clear hfz11_0 hfz11_1
     try clear hfz12_0 hfz12_1
     try clear hfz8_0 hfz8_1
     try clear hfz9_0 hfz9_1
     try clear p2
     obtain ⟨x5_2, rfl, HA, HK2, BK101, BK102, HB⟩ := hrel
     cases gk with
     | zero => exact absurd HA.out (by simp [laws_wkNet.l0])
     | succ k2 =>
      have H := HA.out; clear HA; simp only [laws_wkNet.l0] at H; by_cases c14 : x5_2 < (l0_1.length : Int)
      ·
       rw [if_pos c14] at H; have c14b0 := dl c14; clear c14; by_cases c15 : 0 ≤ x5_2
       ·
        rw [if_pos c15] at H; have c15b0 := de c15; clear c15; by_cases c16 : x5_2 < (l1_1.length : Int)
        ·
         rw [if_pos c16] at H; have c16b0 := dl c16; clear c16; by_cases c17 : (!(((rd_T33 l0_1 x5_2).f0) == ((rd_T33 l1_1 x5_2).f0)) || (!(((rd_T33 l0_1 x5_2).f1) == ((rd_T33 l1_1 x5_2).f1)) || (!(((rd_T33 l0_1 x5_2).f2) == ((rd_T33 l1_1 x5_2).f2)) || (!(((rd_T33 l0_1 x5_2).f3) == ((rd_T33 l1_1 x5_2).f3)) || (!(((rd_T33 l0_1 x5_2).f4) == ((rd_T33 l1_1 x5_2).f4))))))) = true
         ·
          rw [if_pos c17] at H; have c17b0 : (!(((rd_T33 l0_1 x5_2).f0) == ((rd_T33 l1_1 x5_2).f0)) || (!(((rd_T33 l0_1 x5_2).f1) == ((rd_T33 l1_1 x5_2).f1)) || (!(((rd_T33 l0_1 x5_2).f2) == ((rd_T33 l1_1 x5_2).f2)) || (!(((rd_T33 l0_1 x5_2).f3) == ((rd_T33 l1_1 x5_2).f3)) || (!(((rd_T33 l0_1 x5_2).f4) == ((rd_T33 l1_1 x5_2).f4))))))) = true := c17; clear c17; obtain rfl := Option.some.inj H; have hnb18 := NB101_102.out; have hnc18 := NB102_101.out; obtain ⟨hcz19_0, hcz19_1, hfz19_0, hfz19_1⟩ := bc2 BK101; have p103 : 0 ≤ (x5_2 : Int) := ua; have q103 : x5_2 < (l0_1.length : Int) := ua; obtain ⟨ad103, e103, hx103_0, hx103_1, hx103_2, hx103_3, hx103_4⟩ := at_T33 HR0_1.out x5_2 p103 q103
          cases e103
          replace hx103_0 := uc HB hx103_0; replace hx103_1 := uc HB hx103_1; replace hx103_2 := uc HB hx103_2; replace hx103_3 := uc HB hx103_3; replace hx103_4 := uc HB hx103_4; replace p103 := eq_true p103; replace q103 := eq_true q103; obtain ⟨hcz20_0, hcz20_1, hfz20_0, hfz20_1⟩ := bc2 BK102; have p104 : 0 ≤ (x5_2 : Int) := ua; have q104 : x5_2 < (l1_1.length : Int) := ua; obtain ⟨ad104, e104, hx104_0, hx104_1, hx104_2, hx104_3, hx104_4⟩ := at_T33 HR1_1.out x5_2 p104 q104
          cases e104
          replace hx104_0 := uc HB hx104_0; replace hx104_1 := uc HB hx104_1; replace hx104_2 := uc HB hx104_2; replace hx104_3 := uc HB hx104_3; replace hx104_4 := uc HB hx104_4; replace p104 := eq_true p104; replace q104 := eq_true q104; go_wp2
          repeat (go_quiet (fail); try go_wp2)
          go_ret; exact ⟨ux, uB2 HB GE101.out GE102.out⟩
         ·
          rw [if_neg c17] at H; have c17b0 : (!(((rd_T33 l0_1 x5_2).f0) == ((rd_T33 l1_1 x5_2).f0)) || (!(((rd_T33 l0_1 x5_2).f1) == ((rd_T33 l1_1 x5_2).f1)) || (!(((rd_T33 l0_1 x5_2).f2) == ((rd_T33 l1_1 x5_2).f2)) || (!(((rd_T33 l0_1 x5_2).f3) == ((rd_T33 l1_1 x5_2).f3)) || (!(((rd_T33 l0_1 x5_2).f4) == ((rd_T33 l1_1 x5_2).f4))))))) = false := by simpa using c17
          clear c17; have H' := Aside0.mk H; clear H; have hnb21 := NB101_102.out; have hnc21 := NB102_101.out; obtain ⟨hcz22_0, hcz22_1, hfz22_0, hfz22_1⟩ := bc2 BK101; have p103 : 0 ≤ (x5_2 : Int) := ua; have q103 : x5_2 < (l0_1.length : Int) := ua; obtain ⟨ad103, e103, hx103_0, hx103_1, hx103_2, hx103_3, hx103_4⟩ := at_T33 HR0_1.out x5_2 p103 q103
          cases e103
          replace hx103_0 := uc HB hx103_0; replace hx103_1 := uc HB hx103_1; replace hx103_2 := uc HB hx103_2; replace hx103_3 := uc HB hx103_3; replace hx103_4 := uc HB hx103_4; replace p103 := eq_true p103; replace q103 := eq_true q103; obtain ⟨hcz23_0, hcz23_1, hfz23_0, hfz23_1⟩ := bc2 BK102; have p104 : 0 ≤ (x5_2 : Int) := ua; have q104 : x5_2 < (l1_1.length : Int) := ua; obtain ⟨ad104, e104, hx104_0, hx104_1, hx104_2, hx104_3, hx104_4⟩ := at_T33 HR1_1.out x5_2 p104 q104
          cases e104
          replace hx104_0 := uc HB hx104_0; replace hx104_1 := uc HB hx104_1; replace hx104_2 := uc HB hx104_2; replace hx104_3 := uc HB hx104_3; replace hx104_4 := uc HB hx104_4; replace p104 := eq_true p104; replace q104 := eq_true q104; go_wp2
          repeat (go_quiet (fail); try go_wp2)
          go_roundg k2
          case measure => have := HJ2.out; have := HK2.out; omega
          case rel => exact ⟨(wrap64 (x5_2 + 1)), ue, H', ⟨by have := HJ2.out; have := HK2.out; omega⟩, ⟨ub BK101⟩, ⟨ub BK102⟩, ⟨uB2 HB GE101.out GE102.out⟩⟩
        ·
         rw [if_neg c16] at H; exact absurd H (by simp)
       ·
        rw [if_neg c15] at H; exact absurd H (by simp)
      ·
       rw [if_neg c14] at H; have c14b0 := DL c14; clear c14; obtain rfl := Option.some.inj H; have hnb24 := NB101_102.out; have hnc24 := NB102_101.out; obtain ⟨hcz25_0, hcz25_1, hfz25_0, hfz25_1⟩ := bc2 BK101; go_wp2
       repeat (go_quiet (fail); try go_wp2)
       go_ret; exact ⟨ux, uB2 HB GE101.out GE102.out⟩

end Go.Proofs.Ytblpdfgplifccaa.P
