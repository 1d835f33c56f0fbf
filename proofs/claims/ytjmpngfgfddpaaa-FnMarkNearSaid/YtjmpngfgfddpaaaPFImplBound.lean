-- written for this claim by a program (wip/gen/myprint.py over the print tool). Not trusted: Lean checks it.
import Derived.Test.YtjmpngfgfddpaaaPx0
import Derived.Test.YtjmpngfgfddpaaaHUp
namespace Go.Proofs.Ytjmpngfgfddpaaa.P
open Go.RowKit Go.Proofs.YtjmpngfgfddpaaaV.PrintWords Go.Proofs.YtjmpngfgfddpaaaV.PrintLast
set_option linter.unusedVariables false
set_option linter.unusedSimpArgs false

/-! ### impl_bound: function 135 -/
def impl_bound.l0 : Nat → List (List Int) → Int → Int → Int → List Int → Int → Int → Option (Int)
 | 0, _, _, _, _, _, _, _ => none
 | k + 1, x0, x2, x3, x9, x12, x13, x14 => if x14 < x13 then (if 0 ≤ x14 then (if x14 < (x12.length : Int) then (if 0 ≤ (rd x12 x14) then (if (rd x12 x14) < (x0.length : Int) then (if 0 ≤ x2 then (if x2 < ((rd_L5 x0 (rd x12 x14)).length : Int) then (if (rd (rd_L5 x0 (rd x12 x14)) x2) = 99999 then (if 0 ≤ x3 then (if x3 < (x0.length : Int) then (if (rd x12 x14) < ((rd_L5 x0 x3).length : Int) then (if (rd (rd_L5 x0 x3) (rd x12 x14)) = 99999 then (impl_bound.l0 k x0 x2 x3 x9 x12 x13 (wrap64 (x14 + 1))) else (if x2 < (x0.length : Int) then (if (rd x12 x14) < ((rd_L5 x0 x2).length : Int) then (impl_bound.l0 k x0 x2 x3 (mx x9 (wrap64 ((rd (rd_L5 x0 x2) (rd x12 x14)) - (rd (rd_L5 x0 x3) (rd x12 x14))))) x12 x13 (wrap64 (x14 + 1))) else (none)) else (none))) else (none)) else (none)) else (none)) else (if 0 ≤ x3 then (if x3 < ((rd_L5 x0 (rd x12 x14)).length : Int) then (if x3 < (x0.length : Int) then (if (rd x12 x14) < ((rd_L5 x0 x3).length : Int) then (if (rd (rd_L5 x0 x3) (rd x12 x14)) = 99999 then (impl_bound.l0 k x0 x2 x3 (mx x9 (wrap64 ((rd (rd_L5 x0 (rd x12 x14)) x3) - (rd (rd_L5 x0 (rd x12 x14)) x2)))) x12 x13 (wrap64 (x14 + 1))) else (if x2 < (x0.length : Int) then (if (rd x12 x14) < ((rd_L5 x0 x2).length : Int) then (impl_bound.l0 k x0 x2 x3 (mx (mx x9 (wrap64 ((rd (rd_L5 x0 (rd x12 x14)) x3) - (rd (rd_L5 x0 (rd x12 x14)) x2)))) (wrap64 ((rd (rd_L5 x0 x2) (rd x12 x14)) - (rd (rd_L5 x0 x3) (rd x12 x14))))) x12 x13 (wrap64 (x14 + 1))) else (none)) else (none))) else (none)) else (none)) else (none)) else (none))) else (none)) else (none)) else (none)) else (none)) else (none)) else (none)) else (if x9 > 49999 then (some 99999) else (some x9))
def impl_bound.f (k : Nat) (l0 : List (List Int)) (l1 : List Int) (a2 : Int) (a3 : Int) : Option (Int) := impl_bound.l0 k l0 a2 a3 0 l1 (l1.length : Int) 0
set_option maxHeartbeats 8000000 in
set_option maxRecDepth 100000 in
theorem impl_bound.calls (k : Nat) (A0 : Option Addr) (c0 : Nat) (l0 : List (List Int)) (A1 : Option Addr) (c1 : Nat) (l1 : List Int) (a2 : Int) (a3 : Int) (r : Int) (w : World) (hr0 : Kd.C (Kd.slice 3 (Kd.int .i64)) w A0 l0.length l0) (hc0 : l0.length ≤ c0) (hr1 : Kd.C (Kd.int .i64) w A1 l1.length l1) (hc1 : l1.length ≤ c1) (h : impl_bound.f k l0 l1 a2 a3 = some r) :
  Calls Try.prog 135 #[.slice A0 l0.length c0, .slice A1 l1.length c1, .int .i64 a2, .int .i64 a3] w fun e w' => e = .returned (.int .i64 r) ∧ Below w.heap.size w w' := by
 have HR0 := Aside0.mk hr0
 have HC0 := Aside0.mk hc0
 clear hr0 hc0
 have HR1 := Aside0.mk hr1
 have HC1 := Aside0.mk hc1
 clear hr1 hc1
 have HB := Aside0.mk (Below.refl w.heap.size w)
 have H : (impl_bound.l0 k l0 a2 a3 0 l1 (l1.length : Int) 0) = some r := h
 clear h
 have H' := Aside0.mk H
 clear H
 go_enter Try.func135, Try.ntmps135
 go_wp2
 repeat (go_quiet (fail); try go_wp2)
 go_loopg [9, 14] k (fun kq v9 v14 w' => ∃ (x9_1 : Int) (x14_1 : Int), v9 = .int .i64 x9_1 ∧ v14 = .int .i64 x14_1 ∧ Aside0 (impl_bound.l0 kq l0 a2 a3 x9_1 l1 (l1.length : Int) x14_1 = some r) ∧ Aside0 (kq ≤ k) ∧ Aside0 (Below w.heap.size w w'))
 case atStart => exact ⟨(0), (0), ue, ue, H', ⟨Nat.le_refl _⟩, ⟨uB0 HB⟩⟩
 case round =>
  clear H'; try clear c1
  try clear p2
  obtain ⟨x9_1, x14_1, rfl, rfl, HA, HK1, HB⟩ := hrel
  cases gk with
  | zero => exact absurd HA.out (by simp [impl_bound.l0])
  | succ k1 =>
   have H := HA.out; clear HA; simp only [impl_bound.l0] at H; by_cases c5 : x14_1 < (l1.length : Int)
   ·
    rw [if_pos c5] at H; have c5b0 : decide (x14_1 < (l1.length : Int)) = true := decide_eq_true c5; clear c5; by_cases c6 : 0 ≤ x14_1
    ·
     rw [if_pos c6] at H; have c6b0 : decide (0 ≤ x14_1) = true := decide_eq_true c6; clear c6; by_cases c7 : x14_1 < (l1.length : Int)
     ·
      rw [if_pos c7] at H; have c7b0 : decide (x14_1 < (l1.length : Int)) = true := decide_eq_true c7; clear c7; by_cases c8 : 0 ≤ (rd l1 x14_1)
      ·
       rw [if_pos c8] at H; have c8b0 : decide (0 ≤ (rd l1 x14_1)) = true := decide_eq_true c8; clear c8; by_cases c9 : (rd l1 x14_1) < (l0.length : Int)
       ·
        rw [if_pos c9] at H; have c9b0 : decide ((rd l1 x14_1) < (l0.length : Int)) = true := decide_eq_true c9; clear c9; by_cases c10 : 0 ≤ a2
        ·
         rw [if_pos c10] at H; have c10b0 : decide (0 ≤ a2) = true := decide_eq_true c10; clear c10; by_cases c11 : a2 < ((rd_L5 l0 (rd l1 x14_1)).length : Int)
         ·
          rw [if_pos c11] at H; have c11b0 : decide (a2 < ((rd_L5 l0 (rd l1 x14_1)).length : Int)) = true := decide_eq_true c11; clear c11; by_cases c12 : (rd (rd_L5 l0 (rd l1 x14_1)) a2) = 99999
          ·
           rw [if_pos c12] at H; have c12b0 : ((rd (rd_L5 l0 (rd l1 x14_1)) a2) == 99999) = true := beq_iff_eq.mpr c12; have c12b1 : ((rd (rd_L5 l0 (rd l1 x14_1)) a2) != 99999) = false := bne_eq_false_iff_eq.mpr c12; clear c12; by_cases c13 : 0 ≤ a3
           ·
            rw [if_pos c13] at H; have c13b0 : decide (0 ≤ a3) = true := decide_eq_true c13; clear c13; by_cases c14 : a3 < (l0.length : Int)
            ·
             rw [if_pos c14] at H; have c14b0 : decide (a3 < (l0.length : Int)) = true := decide_eq_true c14; clear c14; by_cases c15 : (rd l1 x14_1) < ((rd_L5 l0 a3).length : Int)
             ·
              rw [if_pos c15] at H; have c15b0 : decide ((rd l1 x14_1) < ((rd_L5 l0 a3).length : Int)) = true := decide_eq_true c15; clear c15; by_cases c16 : (rd (rd_L5 l0 a3) (rd l1 x14_1)) = 99999
              ·
               rw [if_pos c16] at H; have c16b0 : ((rd (rd_L5 l0 a3) (rd l1 x14_1)) == 99999) = true := beq_iff_eq.mpr c16; have c16b1 : ((rd (rd_L5 l0 a3) (rd l1 x14_1)) != 99999) = false := bne_eq_false_iff_eq.mpr c16; clear c16; have H' := Aside0.mk H; clear H; have p101 : 0 ≤ (x14_1 : Int) := ua; have q101 : x14_1 < (l1.length : Int) := ua; obtain ⟨ad101, e101, hx101_0⟩ := Kd.at_int HR1.out x14_1 p101 q101
               cases e101
               replace hx101_0 := uc HB hx101_0; replace p101 := eq_true p101; replace q101 := eq_true q101; have p102 : 0 ≤ ((rd l1 x14_1) : Int) := ua; have q102 : (rd l1 x14_1) < (l0.length : Int) := ua; obtain ⟨ad102, A102_0, c102_0, e102, hx102_0, hl102_0, hi102_0⟩ := at_L5 HR0.out (rd l1 x14_1) p102 q102
               cases e102
               replace hx102_0 := uc HB hx102_0; have HR102_0 := Aside0.mk hi102_0; have HC102_0 := Aside0.mk hl102_0; clear hi102_0 hl102_0; replace p102 := eq_true p102; replace q102 := eq_true q102; have p103 : 0 ≤ (a2 : Int) := ua; have q103 : a2 < ((rd_L5 l0 (rd l1 x14_1)).length : Int) := ua; obtain ⟨ad103, e103, hx103_0⟩ := Kd.at_int HR102_0.out a2 p103 q103
               cases e103
               replace hx103_0 := uc HB hx103_0; replace p103 := eq_true p103; replace q103 := eq_true q103; have p104 : 0 ≤ (a3 : Int) := ua; have q104 : a3 < (l0.length : Int) := ua; obtain ⟨ad104, A104_0, c104_0, e104, hx104_0, hl104_0, hi104_0⟩ := at_L5 HR0.out a3 p104 q104; obtain rfl : ad102 = ad104 := (by injection e104)
               replace hx104_0 := uc HB hx104_0; have HR104_0 := Aside0.mk hi104_0; have HC104_0 := Aside0.mk hl104_0; clear hi104_0 hl104_0; replace p104 := eq_true p104; replace q104 := eq_true q104; have p105 : 0 ≤ ((rd l1 x14_1) : Int) := ua; have q105 : (rd l1 x14_1) < ((rd_L5 l0 a3).length : Int) := ua; obtain ⟨ad105, e105, hx105_0⟩ := Kd.at_int HR104_0.out (rd l1 x14_1) p105 q105
               cases e105
               replace hx105_0 := uc HB hx105_0; replace p105 := eq_true p105; replace q105 := eq_true q105; go_wp2
               repeat (go_quiet (fail); try go_wp2)
               go_roundg k1
               case measure => have := HK1.out; omega
               case rel => exact ⟨(x9_1), (wrap64 (x14_1 + 1)), ue, ue, H', ⟨by have := HK1.out; omega⟩, ⟨uB0 HB⟩⟩
              ·
               rw [if_neg c16] at H; have c16b0 : ((rd (rd_L5 l0 a3) (rd l1 x14_1)) == 99999) = false := beq_eq_false_iff_ne.mpr c16; have c16b1 : ((rd (rd_L5 l0 a3) (rd l1 x14_1)) != 99999) = true := bne_iff_ne.mpr c16; by_cases c17 : a2 < (l0.length : Int)
               ·
                rw [if_pos c17] at H; have c17b0 : decide (a2 < (l0.length : Int)) = true := decide_eq_true c17; clear c17; by_cases c18 : (rd l1 x14_1) < ((rd_L5 l0 a2).length : Int)
                ·
                 rw [if_pos c18] at H; have c18b0 : decide ((rd l1 x14_1) < ((rd_L5 l0 a2).length : Int)) = true := decide_eq_true c18; clear c18; obtain ⟨ji19, hji19⟩ : ∃ j_ : Int, (mx x9_1 (wrap64 ((rd (rd_L5 l0 a2) (rd l1 x14_1)) - (rd (rd_L5 l0 a3) (rd l1 x14_1))))) = j_ := ⟨_, rfl⟩
                 replace H : (impl_bound.l0 k1 l0 a2 a3 ji19 l1 (l1.length : Int) (wrap64 (x14_1 + 1))) = some r := by first | (rw [hji19] at H; exact H) | (simp only [hji19] at H ⊢; exact H)
                 have hji19_ : (if x9_1 < (wrap64 ((rd (rd_L5 l0 a2) (rd l1 x14_1)) - (rd (rd_L5 l0 a3) (rd l1 x14_1)))) then (wrap64 ((rd (rd_L5 l0 a2) (rd l1 x14_1)) - (rd (rd_L5 l0 a3) (rd l1 x14_1)))) else x9_1) = ji19 := hji19; have H' := Aside0.mk H; clear H; have p101 : 0 ≤ (x14_1 : Int) := ua; have q101 : x14_1 < (l1.length : Int) := ua; obtain ⟨ad101, e101, hx101_0⟩ := Kd.at_int HR1.out x14_1 p101 q101
                 cases e101
                 replace hx101_0 := uc HB hx101_0; replace p101 := eq_true p101; replace q101 := eq_true q101; have p102 : 0 ≤ ((rd l1 x14_1) : Int) := ua; have q102 : (rd l1 x14_1) < (l0.length : Int) := ua; obtain ⟨ad102, A102_0, c102_0, e102, hx102_0, hl102_0, hi102_0⟩ := at_L5 HR0.out (rd l1 x14_1) p102 q102
                 cases e102
                 replace hx102_0 := uc HB hx102_0; have HR102_0 := Aside0.mk hi102_0; have HC102_0 := Aside0.mk hl102_0; clear hi102_0 hl102_0; replace p102 := eq_true p102; replace q102 := eq_true q102; have p103 : 0 ≤ (a2 : Int) := ua; have q103 : a2 < ((rd_L5 l0 (rd l1 x14_1)).length : Int) := ua; obtain ⟨ad103, e103, hx103_0⟩ := Kd.at_int HR102_0.out a2 p103 q103
                 cases e103
                 replace hx103_0 := uc HB hx103_0; replace p103 := eq_true p103; replace q103 := eq_true q103; have p104 : 0 ≤ (a3 : Int) := ua; have q104 : a3 < (l0.length : Int) := ua; obtain ⟨ad104, A104_0, c104_0, e104, hx104_0, hl104_0, hi104_0⟩ := at_L5 HR0.out a3 p104 q104; obtain rfl : ad102 = ad104 := (by injection e104)
                 replace hx104_0 := uc HB hx104_0; have HR104_0 := Aside0.mk hi104_0; have HC104_0 := Aside0.mk hl104_0; clear hi104_0 hl104_0; replace p104 := eq_true p104; replace q104 := eq_true q104; have p105 : 0 ≤ ((rd l1 x14_1) : Int) := ua; have q105 : (rd l1 x14_1) < ((rd_L5 l0 a3).length : Int) := ua; obtain ⟨ad105, e105, hx105_0⟩ := Kd.at_int HR104_0.out (rd l1 x14_1) p105 q105
                 cases e105
                 replace hx105_0 := uc HB hx105_0; replace p105 := eq_true p105; replace q105 := eq_true q105; have p106 : 0 ≤ (a2 : Int) := ua; have q106 : a2 < (l0.length : Int) := ua; obtain ⟨ad106, A106_0, c106_0, e106, hx106_0, hl106_0, hi106_0⟩ := at_L5 HR0.out a2 p106 q106; obtain rfl : ad102 = ad106 := (by injection e106)
                 replace hx106_0 := uc HB hx106_0; have HR106_0 := Aside0.mk hi106_0; have HC106_0 := Aside0.mk hl106_0; clear hi106_0 hl106_0; replace p106 := eq_true p106; replace q106 := eq_true q106; have p107 : 0 ≤ ((rd l1 x14_1) : Int) := ua; have q107 : (rd l1 x14_1) < ((rd_L5 l0 a2).length : Int) := ua; obtain ⟨ad107, e107, hx107_0⟩ := Kd.at_int HR106_0.out (rd l1 x14_1) p107 q107
                 cases e107
                 replace hx107_0 := uc HB hx107_0; replace p107 := eq_true p107; replace q107 := eq_true q107; have p108 : 0 ≤ (a3 : Int) := ua; have q108 : a3 < (l0.length : Int) := ua; obtain ⟨ad108, A108_0, c108_0, e108, hx108_0, hl108_0, hi108_0⟩ := at_L5 HR0.out a3 p108 q108; obtain rfl : ad102 = ad108 := (by injection e108)
                 replace hx108_0 := uc HB hx108_0; have HR108_0 := Aside0.mk hi108_0; have HC108_0 := Aside0.mk hl108_0; clear hi108_0 hl108_0; replace p108 := eq_true p108; replace q108 := eq_true q108; have ea_ := Option.some.inj (hx104_0.symm.trans hx108_0); injection ea_ with ea_ en_ ec_
                 subst ea_; subst ec_; clear en_; have p109 : 0 ≤ ((rd l1 x14_1) : Int) := ua; have q109 : (rd l1 x14_1) < ((rd_L5 l0 a3).length : Int) := ua; obtain ⟨ad109, e109, hx109_0⟩ := Kd.at_int HR108_0.out (rd l1 x14_1) p109 q109
                 cases e109
                 replace hx109_0 := uc HB hx109_0; replace p109 := eq_true p109; replace q109 := eq_true q109; go_wp2
                 repeat (go_quiet (fail); try go_wp2)
                 go_roundg k1
                 case measure => have := HK1.out; omega
                 case rel => exact ⟨(ji19), (wrap64 (x14_1 + 1)), (by first | rfl | (simp; done) | (simp only [← hji19] <;> (first | rfl | simp)) | (simp [*]; done)), ue, H', ⟨by have := HK1.out; omega⟩, ⟨uB0 HB⟩⟩
                ·
                 rw [if_neg c18] at H; exact absurd H (by simp)
               ·
                rw [if_neg c17] at H; exact absurd H (by simp)
             ·
              rw [if_neg c15] at H; exact absurd H (by simp)
            ·
             rw [if_neg c14] at H; exact absurd H (by simp)
           ·
            rw [if_neg c13] at H; exact absurd H (by simp)
          ·
           rw [if_neg c12] at H; have c12b0 : ((rd (rd_L5 l0 (rd l1 x14_1)) a2) == 99999) = false := beq_eq_false_iff_ne.mpr c12; have c12b1 : ((rd (rd_L5 l0 (rd l1 x14_1)) a2) != 99999) = true := bne_iff_ne.mpr c12; by_cases c20 : 0 ≤ a3
           ·
            rw [if_pos c20] at H; have c20b0 : decide (0 ≤ a3) = true := decide_eq_true c20; clear c20; by_cases c21 : a3 < ((rd_L5 l0 (rd l1 x14_1)).length : Int)
            ·
             rw [if_pos c21] at H; have c21b0 : decide (a3 < ((rd_L5 l0 (rd l1 x14_1)).length : Int)) = true := decide_eq_true c21; clear c21; obtain ⟨ji22, hji22⟩ : ∃ j_ : Int, (mx x9_1 (wrap64 ((rd (rd_L5 l0 (rd l1 x14_1)) a3) - (rd (rd_L5 l0 (rd l1 x14_1)) a2)))) = j_ := ⟨_, rfl⟩
             replace H : (if a3 < (l0.length : Int) then (if (rd l1 x14_1) < ((rd_L5 l0 a3).length : Int) then (if (rd (rd_L5 l0 a3) (rd l1 x14_1)) = 99999 then (impl_bound.l0 k1 l0 a2 a3 ji22 l1 (l1.length : Int) (wrap64 (x14_1 + 1))) else (if a2 < (l0.length : Int) then (if (rd l1 x14_1) < ((rd_L5 l0 a2).length : Int) then (impl_bound.l0 k1 l0 a2 a3 (mx (ji22) (wrap64 ((rd (rd_L5 l0 a2) (rd l1 x14_1)) - (rd (rd_L5 l0 a3) (rd l1 x14_1))))) l1 (l1.length : Int) (wrap64 (x14_1 + 1))) else (none)) else (none))) else (none)) else (none)) = some r := by first | (rw [hji22] at H; exact H) | (simp only [hji22] at H ⊢; exact H)
             have hji22_ : (if x9_1 < (wrap64 ((rd (rd_L5 l0 (rd l1 x14_1)) a3) - (rd (rd_L5 l0 (rd l1 x14_1)) a2))) then (wrap64 ((rd (rd_L5 l0 (rd l1 x14_1)) a3) - (rd (rd_L5 l0 (rd l1 x14_1)) a2))) else x9_1) = ji22 := hji22; by_cases c23 : a3 < (l0.length : Int)
             ·
              rw [if_pos c23] at H; have c23b0 : decide (a3 < (l0.length : Int)) = true := decide_eq_true c23; clear c23; by_cases c24 : (rd l1 x14_1) < ((rd_L5 l0 a3).length : Int)
              ·
               rw [if_pos c24] at H; have c24b0 : decide ((rd l1 x14_1) < ((rd_L5 l0 a3).length : Int)) = true := decide_eq_true c24; clear c24; by_cases c25 : (rd (rd_L5 l0 a3) (rd l1 x14_1)) = 99999
               ·
                rw [if_pos c25] at H; have c25b0 : ((rd (rd_L5 l0 a3) (rd l1 x14_1)) == 99999) = true := beq_iff_eq.mpr c25; have c25b1 : ((rd (rd_L5 l0 a3) (rd l1 x14_1)) != 99999) = false := bne_eq_false_iff_eq.mpr c25; clear c25; have H' := Aside0.mk H; clear H; have p101 : 0 ≤ (x14_1 : Int) := ua; have q101 : x14_1 < (l1.length : Int) := ua; obtain ⟨ad101, e101, hx101_0⟩ := Kd.at_int HR1.out x14_1 p101 q101
                cases e101
                replace hx101_0 := uc HB hx101_0; replace p101 := eq_true p101; replace q101 := eq_true q101; have p102 : 0 ≤ ((rd l1 x14_1) : Int) := ua; have q102 : (rd l1 x14_1) < (l0.length : Int) := ua; obtain ⟨ad102, A102_0, c102_0, e102, hx102_0, hl102_0, hi102_0⟩ := at_L5 HR0.out (rd l1 x14_1) p102 q102
                cases e102
                replace hx102_0 := uc HB hx102_0; have HR102_0 := Aside0.mk hi102_0; have HC102_0 := Aside0.mk hl102_0; clear hi102_0 hl102_0; replace p102 := eq_true p102; replace q102 := eq_true q102; have p103 : 0 ≤ (a2 : Int) := ua; have q103 : a2 < ((rd_L5 l0 (rd l1 x14_1)).length : Int) := ua; obtain ⟨ad103, e103, hx103_0⟩ := Kd.at_int HR102_0.out a2 p103 q103
                cases e103
                replace hx103_0 := uc HB hx103_0; replace p103 := eq_true p103; replace q103 := eq_true q103; have p110 : 0 ≤ ((rd l1 x14_1) : Int) := ua; have q110 : (rd l1 x14_1) < (l0.length : Int) := ua; obtain ⟨ad110, A110_0, c110_0, e110, hx110_0, hl110_0, hi110_0⟩ := at_L5 HR0.out (rd l1 x14_1) p110 q110; obtain rfl : ad102 = ad110 := (by injection e110)
                replace hx110_0 := uc HB hx110_0; have HR110_0 := Aside0.mk hi110_0; have HC110_0 := Aside0.mk hl110_0; clear hi110_0 hl110_0; replace p110 := eq_true p110; replace q110 := eq_true q110; have ea_ := Option.some.inj (hx102_0.symm.trans hx110_0); injection ea_ with ea_ en_ ec_
                subst ea_; subst ec_; clear en_; have p111 : 0 ≤ (a3 : Int) := ua; have q111 : a3 < ((rd_L5 l0 (rd l1 x14_1)).length : Int) := ua; obtain ⟨ad111, e111, hx111_0⟩ := Kd.at_int HR110_0.out a3 p111 q111
                cases e111
                replace hx111_0 := uc HB hx111_0; replace p111 := eq_true p111; replace q111 := eq_true q111; have p112 : 0 ≤ ((rd l1 x14_1) : Int) := ua; have q112 : (rd l1 x14_1) < (l0.length : Int) := ua; obtain ⟨ad112, A112_0, c112_0, e112, hx112_0, hl112_0, hi112_0⟩ := at_L5 HR0.out (rd l1 x14_1) p112 q112; obtain rfl : ad102 = ad112 := (by injection e112)
                replace hx112_0 := uc HB hx112_0; have HR112_0 := Aside0.mk hi112_0; have HC112_0 := Aside0.mk hl112_0; clear hi112_0 hl112_0; replace p112 := eq_true p112; replace q112 := eq_true q112; have ea_ := Option.some.inj (hx102_0.symm.trans hx112_0); injection ea_ with ea_ en_ ec_
                subst ea_; subst ec_; clear en_; have p113 : 0 ≤ (a2 : Int) := ua; have q113 : a2 < ((rd_L5 l0 (rd l1 x14_1)).length : Int) := ua; obtain ⟨ad113, e113, hx113_0⟩ := Kd.at_int HR112_0.out a2 p113 q113
                cases e113
                replace hx113_0 := uc HB hx113_0; replace p113 := eq_true p113; replace q113 := eq_true q113; have p114 : 0 ≤ (a3 : Int) := ua; have q114 : a3 < (l0.length : Int) := ua; obtain ⟨ad114, A114_0, c114_0, e114, hx114_0, hl114_0, hi114_0⟩ := at_L5 HR0.out a3 p114 q114; obtain rfl : ad102 = ad114 := (by injection e114)
                replace hx114_0 := uc HB hx114_0; have HR114_0 := Aside0.mk hi114_0; have HC114_0 := Aside0.mk hl114_0; clear hi114_0 hl114_0; replace p114 := eq_true p114; replace q114 := eq_true q114; have p115 : 0 ≤ ((rd l1 x14_1) : Int) := ua; have q115 : (rd l1 x14_1) < ((rd_L5 l0 a3).length : Int) := ua; obtain ⟨ad115, e115, hx115_0⟩ := Kd.at_int HR114_0.out (rd l1 x14_1) p115 q115
                cases e115
                replace hx115_0 := uc HB hx115_0; replace p115 := eq_true p115; replace q115 := eq_true q115; go_wp2
                repeat (go_quiet (fail); try go_wp2)
                go_roundg k1
                case measure => have := HK1.out; omega
                case rel => exact ⟨(ji22), (wrap64 (x14_1 + 1)), (by first | rfl | (simp; done) | (simp only [← hji22] <;> (first | rfl | simp)) | (simp [*]; done)), ue, H', ⟨by have := HK1.out; omega⟩, ⟨uB0 HB⟩⟩
               ·
                rw [if_neg c25] at H; have c25b0 : ((rd (rd_L5 l0 a3) (rd l1 x14_1)) == 99999) = false := beq_eq_false_iff_ne.mpr c25; have c25b1 : ((rd (rd_L5 l0 a3) (rd l1 x14_1)) != 99999) = true := bne_iff_ne.mpr c25; by_cases c26 : a2 < (l0.length : Int)
                ·
                 rw [if_pos c26] at H; have c26b0 : decide (a2 < (l0.length : Int)) = true := decide_eq_true c26; clear c26; by_cases c27 : (rd l1 x14_1) < ((rd_L5 l0 a2).length : Int)
                 ·
                  rw [if_pos c27] at H; have c27b0 : decide ((rd l1 x14_1) < ((rd_L5 l0 a2).length : Int)) = true := decide_eq_true c27; clear c27; obtain ⟨ji28, hji28⟩ : ∃ j_ : Int, (mx (ji22) (wrap64 ((rd (rd_L5 l0 a2) (rd l1 x14_1)) - (rd (rd_L5 l0 a3) (rd l1 x14_1))))) = j_ := ⟨_, rfl⟩
                  replace H : (impl_bound.l0 k1 l0 a2 a3 ji28 l1 (l1.length : Int) (wrap64 (x14_1 + 1))) = some r := by first | (rw [hji28] at H; exact H) | (simp only [hji28] at H ⊢; exact H)
                  have hji28_ : (if (ji22) < (wrap64 ((rd (rd_L5 l0 a2) (rd l1 x14_1)) - (rd (rd_L5 l0 a3) (rd l1 x14_1)))) then (wrap64 ((rd (rd_L5 l0 a2) (rd l1 x14_1)) - (rd (rd_L5 l0 a3) (rd l1 x14_1)))) else (ji22)) = ji28 := hji28; have H' := Aside0.mk H; clear H; have p101 : 0 ≤ (x14_1 : Int) := ua; have q101 : x14_1 < (l1.length : Int) := ua; obtain ⟨ad101, e101, hx101_0⟩ := Kd.at_int HR1.out x14_1 p101 q101
                  cases e101
                  replace hx101_0 := uc HB hx101_0; replace p101 := eq_true p101; replace q101 := eq_true q101; have p102 : 0 ≤ ((rd l1 x14_1) : Int) := ua; have q102 : (rd l1 x14_1) < (l0.length : Int) := ua; obtain ⟨ad102, A102_0, c102_0, e102, hx102_0, hl102_0, hi102_0⟩ := at_L5 HR0.out (rd l1 x14_1) p102 q102
                  cases e102
                  replace hx102_0 := uc HB hx102_0; have HR102_0 := Aside0.mk hi102_0; have HC102_0 := Aside0.mk hl102_0; clear hi102_0 hl102_0; replace p102 := eq_true p102; replace q102 := eq_true q102; have p103 : 0 ≤ (a2 : Int) := ua; have q103 : a2 < ((rd_L5 l0 (rd l1 x14_1)).length : Int) := ua; obtain ⟨ad103, e103, hx103_0⟩ := Kd.at_int HR102_0.out a2 p103 q103
                  cases e103
                  replace hx103_0 := uc HB hx103_0; replace p103 := eq_true p103; replace q103 := eq_true q103; have p110 : 0 ≤ ((rd l1 x14_1) : Int) := ua; have q110 : (rd l1 x14_1) < (l0.length : Int) := ua; obtain ⟨ad110, A110_0, c110_0, e110, hx110_0, hl110_0, hi110_0⟩ := at_L5 HR0.out (rd l1 x14_1) p110 q110; obtain rfl : ad102 = ad110 := (by injection e110)
                  replace hx110_0 := uc HB hx110_0; have HR110_0 := Aside0.mk hi110_0; have HC110_0 := Aside0.mk hl110_0; clear hi110_0 hl110_0; replace p110 := eq_true p110; replace q110 := eq_true q110; have ea_ := Option.some.inj (hx102_0.symm.trans hx110_0); injection ea_ with ea_ en_ ec_
                  subst ea_; subst ec_; clear en_; have p111 : 0 ≤ (a3 : Int) := ua; have q111 : a3 < ((rd_L5 l0 (rd l1 x14_1)).length : Int) := ua; obtain ⟨ad111, e111, hx111_0⟩ := Kd.at_int HR110_0.out a3 p111 q111
                  cases e111
                  replace hx111_0 := uc HB hx111_0; replace p111 := eq_true p111; replace q111 := eq_true q111; have p112 : 0 ≤ ((rd l1 x14_1) : Int) := ua; have q112 : (rd l1 x14_1) < (l0.length : Int) := ua; obtain ⟨ad112, A112_0, c112_0, e112, hx112_0, hl112_0, hi112_0⟩ := at_L5 HR0.out (rd l1 x14_1) p112 q112; obtain rfl : ad102 = ad112 := (by injection e112)
                  replace hx112_0 := uc HB hx112_0; have HR112_0 := Aside0.mk hi112_0; have HC112_0 := Aside0.mk hl112_0; clear hi112_0 hl112_0; replace p112 := eq_true p112; replace q112 := eq_true q112; have ea_ := Option.some.inj (hx102_0.symm.trans hx112_0); injection ea_ with ea_ en_ ec_
                  subst ea_; subst ec_; clear en_; have p113 : 0 ≤ (a2 : Int) := ua; have q113 : a2 < ((rd_L5 l0 (rd l1 x14_1)).length : Int) := ua; obtain ⟨ad113, e113, hx113_0⟩ := Kd.at_int HR112_0.out a2 p113 q113
                  cases e113
                  replace hx113_0 := uc HB hx113_0; replace p113 := eq_true p113; replace q113 := eq_true q113; have p114 : 0 ≤ (a3 : Int) := ua; have q114 : a3 < (l0.length : Int) := ua; obtain ⟨ad114, A114_0, c114_0, e114, hx114_0, hl114_0, hi114_0⟩ := at_L5 HR0.out a3 p114 q114; obtain rfl : ad102 = ad114 := (by injection e114)
                  replace hx114_0 := uc HB hx114_0; have HR114_0 := Aside0.mk hi114_0; have HC114_0 := Aside0.mk hl114_0; clear hi114_0 hl114_0; replace p114 := eq_true p114; replace q114 := eq_true q114; have p115 : 0 ≤ ((rd l1 x14_1) : Int) := ua; have q115 : (rd l1 x14_1) < ((rd_L5 l0 a3).length : Int) := ua; obtain ⟨ad115, e115, hx115_0⟩ := Kd.at_int HR114_0.out (rd l1 x14_1) p115 q115
                  cases e115
                  replace hx115_0 := uc HB hx115_0; replace p115 := eq_true p115; replace q115 := eq_true q115; have p116 : 0 ≤ (a2 : Int) := ua; have q116 : a2 < (l0.length : Int) := ua; obtain ⟨ad116, A116_0, c116_0, e116, hx116_0, hl116_0, hi116_0⟩ := at_L5 HR0.out a2 p116 q116; obtain rfl : ad102 = ad116 := (by injection e116)
                  replace hx116_0 := uc HB hx116_0; have HR116_0 := Aside0.mk hi116_0; have HC116_0 := Aside0.mk hl116_0; clear hi116_0 hl116_0; replace p116 := eq_true p116; replace q116 := eq_true q116; have p117 : 0 ≤ ((rd l1 x14_1) : Int) := ua; have q117 : (rd l1 x14_1) < ((rd_L5 l0 a2).length : Int) := ua; obtain ⟨ad117, e117, hx117_0⟩ := Kd.at_int HR116_0.out (rd l1 x14_1) p117 q117
                  cases e117
                  replace hx117_0 := uc HB hx117_0; replace p117 := eq_true p117; replace q117 := eq_true q117; have p118 : 0 ≤ (a3 : Int) := ua; have q118 : a3 < (l0.length : Int) := ua; obtain ⟨ad118, A118_0, c118_0, e118, hx118_0, hl118_0, hi118_0⟩ := at_L5 HR0.out a3 p118 q118; obtain rfl : ad102 = ad118 := (by injection e118)
                  replace hx118_0 := uc HB hx118_0; have HR118_0 := Aside0.mk hi118_0; have HC118_0 := Aside0.mk hl118_0; clear hi118_0 hl118_0; replace p118 := eq_true p118; replace q118 := eq_true q118; have ea_ := Option.some.inj (hx114_0.symm.trans hx118_0); injection ea_ with ea_ en_ ec_
                  subst ea_; subst ec_; clear en_; have p119 : 0 ≤ ((rd l1 x14_1) : Int) := ua; have q119 : (rd l1 x14_1) < ((rd_L5 l0 a3).length : Int) := ua; obtain ⟨ad119, e119, hx119_0⟩ := Kd.at_int HR118_0.out (rd l1 x14_1) p119 q119
                  cases e119
                  replace hx119_0 := uc HB hx119_0; replace p119 := eq_true p119; replace q119 := eq_true q119; go_wp2
                  repeat (go_quiet (fail); try go_wp2)
                  go_roundg k1
                  case measure => have := HK1.out; omega
                  case rel => exact ⟨(ji28), (wrap64 (x14_1 + 1)), (by first | rfl | (simp; done) | (simp only [← hji28] <;> (first | rfl | simp)) | (simp [*]; done)), ue, H', ⟨by have := HK1.out; omega⟩, ⟨uB0 HB⟩⟩
                 ·
                  rw [if_neg c27] at H; exact absurd H (by simp)
                ·
                 rw [if_neg c26] at H; exact absurd H (by simp)
              ·
               rw [if_neg c24] at H; exact absurd H (by simp)
             ·
              rw [if_neg c23] at H; exact absurd H (by simp)
            ·
             rw [if_neg c21] at H; exact absurd H (by simp)
           ·
            rw [if_neg c20] at H; exact absurd H (by simp)
         ·
          rw [if_neg c11] at H; exact absurd H (by simp)
        ·
         rw [if_neg c10] at H; exact absurd H (by simp)
       ·
        rw [if_neg c9] at H; exact absurd H (by simp)
      ·
       rw [if_neg c8] at H; exact absurd H (by simp)
     ·
      rw [if_neg c7] at H; exact absurd H (by simp)
    ·
     rw [if_neg c6] at H; exact absurd H (by simp)
   ·
    rw [if_neg c5] at H; have c5b0 : decide (x14_1 < (l1.length : Int)) = false := decide_eq_false c5; clear c5; by_cases c29 : x9_1 > 49999
    ·
     rw [if_pos c29] at H; have c29b0 : decide (49999 < x9_1) = true := decide_eq_true c29; clear c29; obtain rfl := Option.some.inj H; go_wp2
     repeat (go_quiet (fail); try go_wp2)
     go_ret; exact ⟨ux, uB0 HB⟩
    ·
     rw [if_neg c29] at H; have c29b0 : decide (49999 < x9_1) = false := decide_eq_false c29; clear c29; obtain rfl := Option.some.inj H; go_wp2
     repeat (go_quiet (fail); try go_wp2)
     go_ret; exact ⟨ux, uB0 HB⟩

end Go.Proofs.Ytjmpngfgfddpaaa.P
