-- written for this claim by a program (wip/gen/myprint.py over the print tool). Not trusted: Lean checks it.
import Derived.Test.YtjmpngfgfddpaaaPx0
import Derived.Test.YtjmpngfgfddpaaaHUp
namespace Go.Proofs.Ytjmpngfgfddpaaa.P
open Go.RowKit Go.Proofs.YtjmpngfgfddpaaaV.PrintWords Go.Proofs.YtjmpngfgfddpaaaV.PrintLast
set_option linter.unusedVariables false
set_option linter.unusedSimpArgs false

/-! ### spec_l12Next: function 167 -/
def spec_l12Next.l0 : Nat → List Int → List Bool → List Int → Int → Int → Int → List (S33) → Option (Int)
 | 0, _, _, _, _, _, _, _ => none
 | k + 1, x1, x2, x3, x9, x10, x102000, x102001 => if x10 < x102000 then (if 0 ≤ x10 then (if x10 < (x2.length : Int) then (if rdOf false x2 x10 = true then (spec_l12Next.l0 k x1 x2 x3 x9 (wrap64 (x10 + 1)) x102000 x102001) else (if x10 < (x1.length : Int) then (if (rd x1 x10) < 99999 then (if x10 < (x3.length : Int) then (if (rd x3 x10) < 99999 then (if x9 < 0 then (spec_l12Next.l0 k x1 x2 x3 x10 (wrap64 (x10 + 1)) x102000 x102001) else (if 0 ≤ x9 then (if x9 < (x1.length : Int) then (if x9 < (x3.length : Int) then (if (wrap64 ((rd x1 x10) + (rd x3 x10))) < (wrap64 ((rd x1 x9) + (rd x3 x9))) then (spec_l12Next.l0 k x1 x2 x3 x10 (wrap64 (x10 + 1)) x102000 x102001) else (spec_l12Next.l0 k x1 x2 x3 x9 (wrap64 (x10 + 1)) x102000 x102001)) else (none)) else (none)) else (none))) else (spec_l12Next.l0 k x1 x2 x3 x9 (wrap64 (x10 + 1)) x102000 x102001)) else (none)) else (spec_l12Next.l0 k x1 x2 x3 x9 (wrap64 (x10 + 1)) x102000 x102001)) else (none))) else (none)) else (none)) else (some x9)
def spec_l12Next.f (k : Nat) (a0_0 : Int) (l0_1 : List (S33)) (l1 : List Int) (l2 : List Bool) (l3 : List Int) : Option (Int) := spec_l12Next.l0 k l1 l2 l3 (-1) 0 a0_0 l0_1
set_option maxHeartbeats 8000000 in
set_option maxRecDepth 100000 in
theorem spec_l12Next.calls (k : Nat) (a0_0 : Int) (A0_1 : Option Addr) (c0_1 : Nat) (l0_1 : List (S33)) (A1 : Option Addr) (c1 : Nat) (l1 : List Int) (A2 : Option Addr) (c2 : Nat) (l2 : List Bool) (A3 : Option Addr) (c3 : Nat) (l3 : List Int) (r : Int) (w : World) (hr0_1 : Kd.C k33 w A0_1 l0_1.length l0_1) (hc0_1 : l0_1.length ≤ c0_1) (hr1 : Kd.C (Kd.int .i64) w A1 l1.length l1) (hc1 : l1.length ≤ c1) (hr2 : Kd.C Kd.bool w A2 l2.length l2) (hc2 : l2.length ≤ c2) (hr3 : Kd.C (Kd.int .i64) w A3 l3.length l3) (hc3 : l3.length ≤ c3) (h : spec_l12Next.f k a0_0 l0_1 l1 l2 l3 = some r) :
  Calls Try.prog 167 #[.agg #[.int .i64 a0_0, .slice A0_1 l0_1.length c0_1], .slice A1 l1.length c1, .slice A2 l2.length c2, .slice A3 l3.length c3] w fun e w' => e = .returned (.int .i64 r) ∧ Below w.heap.size w w' := by
 have hu25 := Try.underlying25
 have HR0_1 := Aside0.mk hr0_1
 have HC0_1 := Aside0.mk hc0_1
 clear hr0_1 hc0_1
 have HR1 := Aside0.mk hr1
 have HC1 := Aside0.mk hc1
 clear hr1 hc1
 have HR2 := Aside0.mk hr2
 have HC2 := Aside0.mk hc2
 clear hr2 hc2
 have HR3 := Aside0.mk hr3
 have HC3 := Aside0.mk hc3
 clear hr3 hc3
 have HB := Aside0.mk (Below.refl w.heap.size w)
 have H : (spec_l12Next.l0 k l1 l2 l3 (-1) 0 a0_0 l0_1) = some r := h
 clear h
 have H' := Aside0.mk H
 clear H
 go_enter Try.func167, Try.ntmps167
 go_wp2_with (first | ((with_reducible refine gate_dst (N := 4) rfl ?_); refine box_event ?hg (N := 4) ?hd (cs := #[.int .i64 a0_0, .slice A0_1 l0_1.length c0_1]) (t := 25) ?hr ?_; (case hd => rfl); (case hg => rfl); (case hr => first | (go_simp; done) | (go_simp; rfl)); intro gb101 hg w5 hbox hb; have n0_ := Aside0.mk (below_step (uB0 HB) hb); have n1_ := Aside0.mk (hbox); have n2_ := Aside0.mk ((by rw [hg]; exact (below_size (uB0 HB)) : w.heap.size ≤ gb101)); have n3_ := Aside0.mk ((by rw [hg]; exact (below_size (uB0 HB)) : w.heap.size ≤ gb101)); clear HB; have HB := n0_; have BK101 := n1_; have GW101 := n2_; have GE101 := n3_; clear n0_ n1_ n2_ n3_; clear hb hbox hg))
 repeat (go_quiet (first | ((with_reducible refine gate_dst (N := 4) rfl ?_); refine box_event ?hg (N := 4) ?hd (cs := #[.int .i64 a0_0, .slice A0_1 l0_1.length c0_1]) (t := 25) ?hr ?_; (case hd => rfl); (case hg => rfl); (case hr => first | (go_simp; done) | (go_simp; rfl)); intro gb101 hg w5 hbox hb; have n0_ := Aside0.mk (below_step (uB0 HB) hb); have n1_ := Aside0.mk (hbox); have n2_ := Aside0.mk ((by rw [hg]; exact (below_size (uB0 HB)) : w.heap.size ≤ gb101)); have n3_ := Aside0.mk ((by rw [hg]; exact (below_size (uB0 HB)) : w.heap.size ≤ gb101)); clear HB; have HB := n0_; have BK101 := n1_; have GW101 := n2_; have GE101 := n3_; clear n0_ n1_ n2_ n3_; clear hb hbox hg)); try go_wp2_with (first | ((with_reducible refine gate_dst (N := 4) rfl ?_); refine box_event ?hg (N := 4) ?hd (cs := #[.int .i64 a0_0, .slice A0_1 l0_1.length c0_1]) (t := 25) ?hr ?_; (case hd => rfl); (case hg => rfl); (case hr => first | (go_simp; done) | (go_simp; rfl)); intro gb101 hg w5 hbox hb; have n0_ := Aside0.mk (below_step (uB0 HB) hb); have n1_ := Aside0.mk (hbox); have n2_ := Aside0.mk ((by rw [hg]; exact (below_size (uB0 HB)) : w.heap.size ≤ gb101)); have n3_ := Aside0.mk ((by rw [hg]; exact (below_size (uB0 HB)) : w.heap.size ≤ gb101)); clear HB; have HB := n0_; have BK101 := n1_; have GW101 := n2_; have GE101 := n3_; clear n0_ n1_ n2_ n3_; clear hb hbox hg)))
 go_loopg [9, 10] k (fun kq v9 v10 w' => ∃ (x9_1 : Int) (x10_1 : Int), v9 = .int .i64 x9_1 ∧ v10 = .int .i64 x10_1 ∧ Aside0 (spec_l12Next.l0 kq l1 l2 l3 x9_1 x10_1 a0_0 l0_1 = some r) ∧ Aside0 (kq ≤ k) ∧ Aside0 (w'.heap[gb101]? = some (.cells #[.int .i64 a0_0, (.slice A0_1 l0_1.length c0_1)] 25 (0, 0))) ∧ Aside0 (Below w.heap.size w w'))
 case atStart => exact ⟨((-1)), (0), ue, ue, H', ⟨Nat.le_refl _⟩, ⟨ub BK101⟩, ⟨uB1 HB GE101.out⟩⟩
 case round =>
  clear H'; try clear c1
  try clear c2
  try clear p2
  try clear c3
  obtain ⟨x9_1, x10_1, rfl, rfl, HA, HK1, BK101, HB⟩ := hrel
  cases gk with
  | zero => exact absurd HA.out (by simp [spec_l12Next.l0])
  | succ k1 =>
   have H := HA.out; clear HA; simp only [spec_l12Next.l0] at H; by_cases c6 : x10_1 < a0_0
   ·
    rw [if_pos c6] at H; have c6b0 : decide (x10_1 < a0_0) = true := decide_eq_true c6; clear c6; by_cases c7 : 0 ≤ x10_1
    ·
     rw [if_pos c7] at H; have c7b0 : decide (0 ≤ x10_1) = true := decide_eq_true c7; clear c7; by_cases c8 : x10_1 < (l2.length : Int)
     ·
      rw [if_pos c8] at H; have c8b0 : decide (x10_1 < (l2.length : Int)) = true := decide_eq_true c8; clear c8; obtain ⟨bq9, hbq9⟩ : ∃ b_ : Bool, b_ = (rdOf false l2 x10_1) := ⟨_, rfl⟩
      replace H : (if bq9 = true then (spec_l12Next.l0 k1 l1 l2 l3 x9_1 (wrap64 (x10_1 + 1)) a0_0 l0_1) else (if x10_1 < (l1.length : Int) then (if (rd l1 x10_1) < 99999 then (if x10_1 < (l3.length : Int) then (if (rd l3 x10_1) < 99999 then (if x9_1 < 0 then (spec_l12Next.l0 k1 l1 l2 l3 x10_1 (wrap64 (x10_1 + 1)) a0_0 l0_1) else (if 0 ≤ x9_1 then (if x9_1 < (l1.length : Int) then (if x9_1 < (l3.length : Int) then (if (wrap64 ((rd l1 x10_1) + (rd l3 x10_1))) < (wrap64 ((rd l1 x9_1) + (rd l3 x9_1))) then (spec_l12Next.l0 k1 l1 l2 l3 x10_1 (wrap64 (x10_1 + 1)) a0_0 l0_1) else (spec_l12Next.l0 k1 l1 l2 l3 x9_1 (wrap64 (x10_1 + 1)) a0_0 l0_1)) else (none)) else (none)) else (none))) else (spec_l12Next.l0 k1 l1 l2 l3 x9_1 (wrap64 (x10_1 + 1)) a0_0 l0_1)) else (none)) else (spec_l12Next.l0 k1 l1 l2 l3 x9_1 (wrap64 (x10_1 + 1)) a0_0 l0_1)) else (none))) = some r := by rw [← hbq9] at H; exact H
      have Nbq9 := Aside0.mk hbq9; clear hbq9; by_cases c10 : bq9 = true
      ·
       subst c10; have H1 : (spec_l12Next.l0 k1 l1 l2 l3 x9_1 (wrap64 (x10_1 + 1)) a0_0 l0_1) = some r := by rw [if_pos rfl] at H; exact H
       clear H; have H := H1; clear H1; have H' := Aside0.mk H; clear H; have hcz11_0 : wr.cell? ⟨gb101, 0, none⟩ = some (.int .i64 a0_0) := (blk_cell BK101.out 0).trans rfl; have hcz11_1 : wr.cell? ⟨gb101, 1, none⟩ = some (.slice A0_1 l0_1.length c0_1) := (blk_cell BK101.out 1).trans rfl; have hfz11_0 := blk_frozen BK101.out 0; have hfz11_1 := blk_frozen BK101.out 1; have p102 : 0 ≤ (x10_1 : Int) := ua; have q102 : x10_1 < (l2.length : Int) := ua; obtain ⟨ad102, e102, hx102_0⟩ := Kd.at_bool HR2.out x10_1 p102 q102; (try rw [← Nbq9.out] at hx102_0)
       cases e102
       replace hx102_0 := uc HB hx102_0; replace p102 := eq_true p102; replace q102 := eq_true q102; go_wp2
       repeat (go_quiet (fail); try go_wp2)
       go_roundg k1
       case measure => have := HK1.out; omega
       case rel => exact ⟨(x9_1), (wrap64 (x10_1 + 1)), ue, ue, H', ⟨by have := HK1.out; omega⟩, ⟨ub BK101⟩, ⟨uB1 HB GE101.out⟩⟩
      ·
       replace c10 := Bool.eq_false_iff.mpr c10; subst c10; have H1 : (if x10_1 < (l1.length : Int) then (if (rd l1 x10_1) < 99999 then (if x10_1 < (l3.length : Int) then (if (rd l3 x10_1) < 99999 then (if x9_1 < 0 then (spec_l12Next.l0 k1 l1 l2 l3 x10_1 (wrap64 (x10_1 + 1)) a0_0 l0_1) else (if 0 ≤ x9_1 then (if x9_1 < (l1.length : Int) then (if x9_1 < (l3.length : Int) then (if (wrap64 ((rd l1 x10_1) + (rd l3 x10_1))) < (wrap64 ((rd l1 x9_1) + (rd l3 x9_1))) then (spec_l12Next.l0 k1 l1 l2 l3 x10_1 (wrap64 (x10_1 + 1)) a0_0 l0_1) else (spec_l12Next.l0 k1 l1 l2 l3 x9_1 (wrap64 (x10_1 + 1)) a0_0 l0_1)) else (none)) else (none)) else (none))) else (spec_l12Next.l0 k1 l1 l2 l3 x9_1 (wrap64 (x10_1 + 1)) a0_0 l0_1)) else (none)) else (spec_l12Next.l0 k1 l1 l2 l3 x9_1 (wrap64 (x10_1 + 1)) a0_0 l0_1)) else (none)) = some r := by rw [if_neg (show ¬ (false = true) by decide)] at H; exact H
       clear H; have H := H1; clear H1; by_cases c12 : x10_1 < (l1.length : Int)
       ·
        rw [if_pos c12] at H; have c12b0 : decide (x10_1 < (l1.length : Int)) = true := decide_eq_true c12; clear c12; by_cases c13 : (rd l1 x10_1) < 99999
        ·
         rw [if_pos c13] at H; have c13b0 : decide ((rd l1 x10_1) < 99999) = true := decide_eq_true c13; clear c13; by_cases c14 : x10_1 < (l3.length : Int)
         ·
          rw [if_pos c14] at H; have c14b0 : decide (x10_1 < (l3.length : Int)) = true := decide_eq_true c14; clear c14; by_cases c15 : (rd l3 x10_1) < 99999
          ·
           rw [if_pos c15] at H; have c15b0 : decide ((rd l3 x10_1) < 99999) = true := decide_eq_true c15; clear c15; by_cases c16 : x9_1 < 0
           ·
            rw [if_pos c16] at H; have c16b0 : decide (x9_1 < 0) = true := decide_eq_true c16; clear c16; have H' := Aside0.mk H; clear H; have hcz17_0 : wr.cell? ⟨gb101, 0, none⟩ = some (.int .i64 a0_0) := (blk_cell BK101.out 0).trans rfl; have hcz17_1 : wr.cell? ⟨gb101, 1, none⟩ = some (.slice A0_1 l0_1.length c0_1) := (blk_cell BK101.out 1).trans rfl; have hfz17_0 := blk_frozen BK101.out 0; have hfz17_1 := blk_frozen BK101.out 1; have p102 : 0 ≤ (x10_1 : Int) := ua; have q102 : x10_1 < (l2.length : Int) := ua; obtain ⟨ad102, e102, hx102_0⟩ := Kd.at_bool HR2.out x10_1 p102 q102; (try rw [← Nbq9.out] at hx102_0)
            cases e102
            replace hx102_0 := uc HB hx102_0; replace p102 := eq_true p102; replace q102 := eq_true q102; have p103 : 0 ≤ (x10_1 : Int) := ua; have q103 : x10_1 < (l1.length : Int) := ua; obtain ⟨ad103, e103, hx103_0⟩ := Kd.at_int HR1.out x10_1 p103 q103
            cases e103
            replace hx103_0 := uc HB hx103_0; replace p103 := eq_true p103; replace q103 := eq_true q103; have p104 : 0 ≤ (x10_1 : Int) := ua; have q104 : x10_1 < (l3.length : Int) := ua; obtain ⟨ad104, e104, hx104_0⟩ := Kd.at_int HR3.out x10_1 p104 q104
            cases e104
            replace hx104_0 := uc HB hx104_0; replace p104 := eq_true p104; replace q104 := eq_true q104; go_wp2
            repeat (go_quiet (fail); try go_wp2)
            go_roundg k1
            case measure => have := HK1.out; omega
            case rel => exact ⟨(x10_1), (wrap64 (x10_1 + 1)), ue, ue, H', ⟨by have := HK1.out; omega⟩, ⟨ub BK101⟩, ⟨uB1 HB GE101.out⟩⟩
           ·
            rw [if_neg c16] at H; have c16b0 : decide (x9_1 < 0) = false := decide_eq_false c16; clear c16; by_cases c18 : 0 ≤ x9_1
            ·
             rw [if_pos c18] at H; have c18b0 : decide (0 ≤ x9_1) = true := decide_eq_true c18; clear c18; by_cases c19 : x9_1 < (l1.length : Int)
             ·
              rw [if_pos c19] at H; have c19b0 : decide (x9_1 < (l1.length : Int)) = true := decide_eq_true c19; clear c19; by_cases c20 : x9_1 < (l3.length : Int)
              ·
               rw [if_pos c20] at H; have c20b0 : decide (x9_1 < (l3.length : Int)) = true := decide_eq_true c20; clear c20; by_cases c21 : (wrap64 ((rd l1 x10_1) + (rd l3 x10_1))) < (wrap64 ((rd l1 x9_1) + (rd l3 x9_1)))
               ·
                rw [if_pos c21] at H; have c21b0 : decide ((wrap64 ((rd l1 x10_1) + (rd l3 x10_1))) < (wrap64 ((rd l1 x9_1) + (rd l3 x9_1)))) = true := decide_eq_true c21; clear c21; have H' := Aside0.mk H; clear H; have hcz22_0 : wr.cell? ⟨gb101, 0, none⟩ = some (.int .i64 a0_0) := (blk_cell BK101.out 0).trans rfl; have hcz22_1 : wr.cell? ⟨gb101, 1, none⟩ = some (.slice A0_1 l0_1.length c0_1) := (blk_cell BK101.out 1).trans rfl; have hfz22_0 := blk_frozen BK101.out 0; have hfz22_1 := blk_frozen BK101.out 1; have p102 : 0 ≤ (x10_1 : Int) := ua; have q102 : x10_1 < (l2.length : Int) := ua; obtain ⟨ad102, e102, hx102_0⟩ := Kd.at_bool HR2.out x10_1 p102 q102; (try rw [← Nbq9.out] at hx102_0)
                cases e102
                replace hx102_0 := uc HB hx102_0; replace p102 := eq_true p102; replace q102 := eq_true q102; have p103 : 0 ≤ (x10_1 : Int) := ua; have q103 : x10_1 < (l1.length : Int) := ua; obtain ⟨ad103, e103, hx103_0⟩ := Kd.at_int HR1.out x10_1 p103 q103
                cases e103
                replace hx103_0 := uc HB hx103_0; replace p103 := eq_true p103; replace q103 := eq_true q103; have p104 : 0 ≤ (x10_1 : Int) := ua; have q104 : x10_1 < (l3.length : Int) := ua; obtain ⟨ad104, e104, hx104_0⟩ := Kd.at_int HR3.out x10_1 p104 q104
                cases e104
                replace hx104_0 := uc HB hx104_0; replace p104 := eq_true p104; replace q104 := eq_true q104; have p105 : 0 ≤ (x10_1 : Int) := ua; have q105 : x10_1 < (l1.length : Int) := ua; obtain ⟨ad105, e105, hx105_0⟩ := Kd.at_int HR1.out x10_1 p105 q105; obtain rfl : ad103 = ad105 := (by injection e105)
                replace hx105_0 := uc HB hx105_0; replace p105 := eq_true p105; replace q105 := eq_true q105; have p106 : 0 ≤ (x10_1 : Int) := ua; have q106 : x10_1 < (l3.length : Int) := ua; obtain ⟨ad106, e106, hx106_0⟩ := Kd.at_int HR3.out x10_1 p106 q106; obtain rfl : ad104 = ad106 := (by injection e106)
                replace hx106_0 := uc HB hx106_0; replace p106 := eq_true p106; replace q106 := eq_true q106; have p107 : 0 ≤ (x9_1 : Int) := ua; have q107 : x9_1 < (l1.length : Int) := ua; obtain ⟨ad107, e107, hx107_0⟩ := Kd.at_int HR1.out x9_1 p107 q107; obtain rfl : ad103 = ad107 := (by injection e107)
                replace hx107_0 := uc HB hx107_0; replace p107 := eq_true p107; replace q107 := eq_true q107; have p108 : 0 ≤ (x9_1 : Int) := ua; have q108 : x9_1 < (l3.length : Int) := ua; obtain ⟨ad108, e108, hx108_0⟩ := Kd.at_int HR3.out x9_1 p108 q108; obtain rfl : ad104 = ad108 := (by injection e108)
                replace hx108_0 := uc HB hx108_0; replace p108 := eq_true p108; replace q108 := eq_true q108; go_wp2
                repeat (go_quiet (fail); try go_wp2)
                go_roundg k1
                case measure => have := HK1.out; omega
                case rel => exact ⟨(x10_1), (wrap64 (x10_1 + 1)), ue, ue, H', ⟨by have := HK1.out; omega⟩, ⟨ub BK101⟩, ⟨uB1 HB GE101.out⟩⟩
               ·
                rw [if_neg c21] at H; have c21b0 : decide ((wrap64 ((rd l1 x10_1) + (rd l3 x10_1))) < (wrap64 ((rd l1 x9_1) + (rd l3 x9_1)))) = false := decide_eq_false c21; clear c21; have H' := Aside0.mk H; clear H; have hcz23_0 : wr.cell? ⟨gb101, 0, none⟩ = some (.int .i64 a0_0) := (blk_cell BK101.out 0).trans rfl; have hcz23_1 : wr.cell? ⟨gb101, 1, none⟩ = some (.slice A0_1 l0_1.length c0_1) := (blk_cell BK101.out 1).trans rfl; have hfz23_0 := blk_frozen BK101.out 0; have hfz23_1 := blk_frozen BK101.out 1; have p102 : 0 ≤ (x10_1 : Int) := ua; have q102 : x10_1 < (l2.length : Int) := ua; obtain ⟨ad102, e102, hx102_0⟩ := Kd.at_bool HR2.out x10_1 p102 q102; (try rw [← Nbq9.out] at hx102_0)
                cases e102
                replace hx102_0 := uc HB hx102_0; replace p102 := eq_true p102; replace q102 := eq_true q102; have p103 : 0 ≤ (x10_1 : Int) := ua; have q103 : x10_1 < (l1.length : Int) := ua; obtain ⟨ad103, e103, hx103_0⟩ := Kd.at_int HR1.out x10_1 p103 q103
                cases e103
                replace hx103_0 := uc HB hx103_0; replace p103 := eq_true p103; replace q103 := eq_true q103; have p104 : 0 ≤ (x10_1 : Int) := ua; have q104 : x10_1 < (l3.length : Int) := ua; obtain ⟨ad104, e104, hx104_0⟩ := Kd.at_int HR3.out x10_1 p104 q104
                cases e104
                replace hx104_0 := uc HB hx104_0; replace p104 := eq_true p104; replace q104 := eq_true q104; have p105 : 0 ≤ (x10_1 : Int) := ua; have q105 : x10_1 < (l1.length : Int) := ua; obtain ⟨ad105, e105, hx105_0⟩ := Kd.at_int HR1.out x10_1 p105 q105; obtain rfl : ad103 = ad105 := (by injection e105)
                replace hx105_0 := uc HB hx105_0; replace p105 := eq_true p105; replace q105 := eq_true q105; have p106 : 0 ≤ (x10_1 : Int) := ua; have q106 : x10_1 < (l3.length : Int) := ua; obtain ⟨ad106, e106, hx106_0⟩ := Kd.at_int HR3.out x10_1 p106 q106; obtain rfl : ad104 = ad106 := (by injection e106)
                replace hx106_0 := uc HB hx106_0; replace p106 := eq_true p106; replace q106 := eq_true q106; have p107 : 0 ≤ (x9_1 : Int) := ua; have q107 : x9_1 < (l1.length : Int) := ua; obtain ⟨ad107, e107, hx107_0⟩ := Kd.at_int HR1.out x9_1 p107 q107; obtain rfl : ad103 = ad107 := (by injection e107)
                replace hx107_0 := uc HB hx107_0; replace p107 := eq_true p107; replace q107 := eq_true q107; have p108 : 0 ≤ (x9_1 : Int) := ua; have q108 : x9_1 < (l3.length : Int) := ua; obtain ⟨ad108, e108, hx108_0⟩ := Kd.at_int HR3.out x9_1 p108 q108; obtain rfl : ad104 = ad108 := (by injection e108)
                replace hx108_0 := uc HB hx108_0; replace p108 := eq_true p108; replace q108 := eq_true q108; go_wp2
                repeat (go_quiet (fail); try go_wp2)
                go_roundg k1
                case measure => have := HK1.out; omega
                case rel => exact ⟨(x9_1), (wrap64 (x10_1 + 1)), ue, ue, H', ⟨by have := HK1.out; omega⟩, ⟨ub BK101⟩, ⟨uB1 HB GE101.out⟩⟩
              ·
               rw [if_neg c20] at H; exact absurd H (by simp)
             ·
              rw [if_neg c19] at H; exact absurd H (by simp)
            ·
             rw [if_neg c18] at H; exact absurd H (by simp)
          ·
           rw [if_neg c15] at H; have c15b0 : decide ((rd l3 x10_1) < 99999) = false := decide_eq_false c15; clear c15; have H' := Aside0.mk H; clear H; have hcz24_0 : wr.cell? ⟨gb101, 0, none⟩ = some (.int .i64 a0_0) := (blk_cell BK101.out 0).trans rfl; have hcz24_1 : wr.cell? ⟨gb101, 1, none⟩ = some (.slice A0_1 l0_1.length c0_1) := (blk_cell BK101.out 1).trans rfl; have hfz24_0 := blk_frozen BK101.out 0; have hfz24_1 := blk_frozen BK101.out 1; have p102 : 0 ≤ (x10_1 : Int) := ua; have q102 : x10_1 < (l2.length : Int) := ua; obtain ⟨ad102, e102, hx102_0⟩ := Kd.at_bool HR2.out x10_1 p102 q102; (try rw [← Nbq9.out] at hx102_0)
           cases e102
           replace hx102_0 := uc HB hx102_0; replace p102 := eq_true p102; replace q102 := eq_true q102; have p103 : 0 ≤ (x10_1 : Int) := ua; have q103 : x10_1 < (l1.length : Int) := ua; obtain ⟨ad103, e103, hx103_0⟩ := Kd.at_int HR1.out x10_1 p103 q103
           cases e103
           replace hx103_0 := uc HB hx103_0; replace p103 := eq_true p103; replace q103 := eq_true q103; have p104 : 0 ≤ (x10_1 : Int) := ua; have q104 : x10_1 < (l3.length : Int) := ua; obtain ⟨ad104, e104, hx104_0⟩ := Kd.at_int HR3.out x10_1 p104 q104
           cases e104
           replace hx104_0 := uc HB hx104_0; replace p104 := eq_true p104; replace q104 := eq_true q104; go_wp2
           repeat (go_quiet (fail); try go_wp2)
           go_roundg k1
           case measure => have := HK1.out; omega
           case rel => exact ⟨(x9_1), (wrap64 (x10_1 + 1)), ue, ue, H', ⟨by have := HK1.out; omega⟩, ⟨ub BK101⟩, ⟨uB1 HB GE101.out⟩⟩
         ·
          rw [if_neg c14] at H; exact absurd H (by simp)
        ·
         rw [if_neg c13] at H; have c13b0 : decide ((rd l1 x10_1) < 99999) = false := decide_eq_false c13; clear c13; have H' := Aside0.mk H; clear H; have hcz25_0 : wr.cell? ⟨gb101, 0, none⟩ = some (.int .i64 a0_0) := (blk_cell BK101.out 0).trans rfl; have hcz25_1 : wr.cell? ⟨gb101, 1, none⟩ = some (.slice A0_1 l0_1.length c0_1) := (blk_cell BK101.out 1).trans rfl; have hfz25_0 := blk_frozen BK101.out 0; have hfz25_1 := blk_frozen BK101.out 1; have p102 : 0 ≤ (x10_1 : Int) := ua; have q102 : x10_1 < (l2.length : Int) := ua; obtain ⟨ad102, e102, hx102_0⟩ := Kd.at_bool HR2.out x10_1 p102 q102; (try rw [← Nbq9.out] at hx102_0)
         cases e102
         replace hx102_0 := uc HB hx102_0; replace p102 := eq_true p102; replace q102 := eq_true q102; have p103 : 0 ≤ (x10_1 : Int) := ua; have q103 : x10_1 < (l1.length : Int) := ua; obtain ⟨ad103, e103, hx103_0⟩ := Kd.at_int HR1.out x10_1 p103 q103
         cases e103
         replace hx103_0 := uc HB hx103_0; replace p103 := eq_true p103; replace q103 := eq_true q103; go_wp2
         repeat (go_quiet (fail); try go_wp2)
         go_roundg k1
         case measure => have := HK1.out; omega
         case rel => exact ⟨(x9_1), (wrap64 (x10_1 + 1)), ue, ue, H', ⟨by have := HK1.out; omega⟩, ⟨ub BK101⟩, ⟨uB1 HB GE101.out⟩⟩
       ·
        rw [if_neg c12] at H; exact absurd H (by simp)
     ·
      rw [if_neg c8] at H; exact absurd H (by simp)
    ·
     rw [if_neg c7] at H; exact absurd H (by simp)
   ·
    rw [if_neg c6] at H; have c6b0 : decide (x10_1 < a0_0) = false := decide_eq_false c6; clear c6; obtain rfl := Option.some.inj H; have hcz26_0 : wr.cell? ⟨gb101, 0, none⟩ = some (.int .i64 a0_0) := (blk_cell BK101.out 0).trans rfl; have hcz26_1 : wr.cell? ⟨gb101, 1, none⟩ = some (.slice A0_1 l0_1.length c0_1) := (blk_cell BK101.out 1).trans rfl; have hfz26_0 := blk_frozen BK101.out 0; have hfz26_1 := blk_frozen BK101.out 1; go_wp2
    repeat (go_quiet (fail); try go_wp2)
    go_ret; exact ⟨ux, uB1 HB GE101.out⟩

end Go.Proofs.Ytjmpngfgfddpaaa.P
