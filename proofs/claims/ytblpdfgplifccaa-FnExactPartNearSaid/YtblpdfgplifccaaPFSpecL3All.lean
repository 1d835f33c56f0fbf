-- written for this claim by a program (wip/gen/myprint.py over the print tool). Not trusted: Lean checks it.
import Derived.Test.YtblpdfgplifccaaPx0
import Derived.Test.YtblpdfgplifccaaHUp
namespace Go.Proofs.Ytblpdfgplifccaa.P
open Go.RowKit Go.Proofs.YtblpdfgplifccaaV.PrintWords Go.Proofs.YtblpdfgplifccaaV.PrintLast
set_option linter.unusedVariables false
set_option linter.unusedSimpArgs false

/-! ### spec_l3All: function 87 -/
mutual
def spec_l3All.l0 : Nat → Int → List Int → Int → Int → List (S33) → Option (List Int)
 | 0, _, _, _, _, _ => none
 | k + 1, x1, x5, x6, x102000, x102001 => if x6 < x102000 then (if 0 ≤ x6 then (if x6 < (x5.length : Int) then (spec_l3All.l0 k x1 (x5.set (x6 : Int).toNat 99999) (wrap64 (x6 + 1)) x102000 x102001) else (none)) else (none)) else (if 0 ≤ x1 then (if x1 < (x5.length : Int) then (spec_l3All.l1 k (x5.set (x1 : Int).toNat 0) 0 x102000 x102001) else (none)) else (none))
def spec_l3All.l1 : Nat → List Int → Int → Int → List (S33) → Option (List Int)
 | 0, _, _, _, _ => none
 | k + 1, x5, x7, x102000, x102001 => if x7 < x102000 then (spec_l3All.l2 k x5 x7 0 x102000 x102001) else (some x5)
def spec_l3All.l2 : Nat → List Int → Int → Int → Int → List (S33) → Option (List Int)
 | 0, _, _, _, _, _ => none
 | k + 1, x5, x7, x8, x102000, x102001 => if x8 < (x102001.length : Int) then (if 0 ≤ x8 then (if 0 ≤ ((rd_T33 x102001 x8).f0) then (if ((rd_T33 x102001 x8).f0) < (x5.length : Int) then (if (rd x5 ((rd_T33 x102001 x8).f0)) < 99999 then (if 0 ≤ ((rd_T33 x102001 x8).f1) then (if ((rd_T33 x102001 x8).f1) < (x5.length : Int) then (if (wrap64 ((rd x5 ((rd_T33 x102001 x8).f0)) + ((rd_T33 x102001 x8).f2))) < (rd x5 ((rd_T33 x102001 x8).f1)) then (spec_l3All.l2 k (x5.set (((rd_T33 x102001 x8).f1) : Int).toNat (wrap64 ((rd x5 ((rd_T33 x102001 x8).f0)) + ((rd_T33 x102001 x8).f2)))) x7 (wrap64 (x8 + 1)) x102000 x102001) else (spec_l3All.l2 k x5 x7 (wrap64 (x8 + 1)) x102000 x102001)) else (none)) else (none)) else (spec_l3All.l2 k x5 x7 (wrap64 (x8 + 1)) x102000 x102001)) else (none)) else (none)) else (none)) else (spec_l3All.l1 k x5 (wrap64 (x7 + 1)) x102000 x102001)
end
def spec_l3All.f (k : Nat) (a0_0 : Int) (l0_1 : List (S33)) (a1 : Int) : Option (List Int) := if 0 ≤ a0_0 then (if (a0_0 : Int).toNat ≤ 35184372088832 then (spec_l3All.l0 k a1 (List.replicate (a0_0 : Int).toNat 0) 0 a0_0 l0_1) else (none)) else (none)
def spec_l3All.T14 : Bool × List (List Nat × List Nat) := (true, [([], []), ([], []), ([1], [1]), ([0, 2], [0, 2]), ([3], [3]), ([4], [4]), ([5], [5]), ([6], [6]), ([6], [6]), ([8, 6], [6, 8]), ([7, 9, 6], [6, 7, 9]), ([10, 6], [6, 10]), ([6], [6]), ([12, 6], [6, 12]), ([11, 13, 6], [6, 11, 13]), ([6], [6]), ([6], [6]), ([16, 6], [6, 16]), ([15, 17, 6], [6, 15, 17]), ([18, 6], [6, 18]), ([14, 19, 6], [6, 14, 19]), ([6, 20], [6, 20])])
def spec_l3All.B14 : List Nat := [0, 0, 2, 7, 15, 31, 63, 127, 127, 383, 1023, 2047, 127, 4223, 16383, 127, 127, 65663, 229503, 491647, 1048575, 2097151]
theorem spec_l3All.tab14 : rtab .any (opsOf Try.f87 14) = spec_l3All.T14 := by kernel_rfl
theorem spec_l3All.bits14 : waitsOk spec_l3All.T14.2 spec_l3All.B14 = true := by kernel_rfl
def spec_l3All.T15 : Bool × List (List Nat × List Nat) := (true, [([], []), ([], []), ([1], [1]), ([], []), ([], []), ([4], [4]), ([3, 5], [3, 5]), ([6], [6]), ([], []), ([8], [8]), ([7, 9], [7, 9]), ([0, 2, 0, 1, 2, 3, 4, 5, 6, 7, 8, 9, 10], [0, 2]), ([11, 10, 0, 1, 2, 3, 4, 5, 6, 7, 8, 9, 10], [10, 11])])
def spec_l3All.B15 : List Nat := [0, 0, 2, 0, 0, 16, 56, 120, 0, 256, 1016, 2047, 4095]
theorem spec_l3All.tab15 : rtab .any (opsOf Try.f87 15) = spec_l3All.T15 := by kernel_rfl
theorem spec_l3All.bits15 : waitsOk spec_l3All.T15.2 spec_l3All.B15 = true := by kernel_rfl
set_option maxHeartbeats 8000000 in
set_option maxRecDepth 100000 in
theorem spec_l3All.calls (k : Nat) (a0_0 : Int) (A0_1 : Option Addr) (c0_1 : Nat) (l0_1 : List (S33)) (a1 : Int) (r : List Int) (w : World) (hr0_1 : Kd.C k33 w A0_1 l0_1.length l0_1) (hc0_1 : l0_1.length ≤ c0_1) (h : spec_l3All.f k a0_0 l0_1 a1 = some r) :
  Calls Try.prog 87 #[.agg #[.int .i64 a0_0, .slice A0_1 l0_1.length c0_1], .int .i64 a1] w fun e w' => ∃ v0_ : Value, e = .returned (v0_) ∧ Kd.R (Kd.int .i64) 3 w' w.heap.size (fun _ => True) v0_ r ∧ Below w.heap.size w w' := by
 have hu25 := Try.underlying25
 have hu33 := Try.underlying33
 have HR0_1 := Aside0.mk hr0_1
 have HC0_1 := Aside0.mk hc0_1
 clear hr0_1 hc0_1
 have HB := Aside0.mk (Below.refl w.heap.size w)
 have H : (if 0 ≤ a0_0 then (if (a0_0 : Int).toNat ≤ 35184372088832 then (spec_l3All.l0 k a1 (List.replicate (a0_0 : Int).toNat 0) 0 a0_0 l0_1) else (none)) else (none)) = some r := h
 clear h
 by_cases c3 : 0 ≤ a0_0
 ·
  rw [if_pos c3] at H; have c3b0 := eq_true c3; have c3b1 := de c3; clear c3; by_cases c4 : (a0_0 : Int).toNat ≤ 35184372088832
  ·
   rw [if_pos c4] at H; have c4b0 := eq_true c4; have c4b1 := de c4; clear c4; obtain ⟨y102, hy102⟩ : ∃ y_ : List Int, y_ = (List.replicate (a0_0 : Int).toNat 0) := ⟨_, rfl⟩
   replace H : (spec_l3All.l0 k a1 y102 0 a0_0 l0_1) = some r := by first | (rw [hy102]; with_reducible exact H) | (have H2_ := (Option.bind_some _ _).symm.trans H; rw [hy102]; with_reducible exact H2_) | (have H2_ := (Option.bind_some _ _).symm.trans H; with_reducible exact H2_) | with_reducible exact H | (rw [hy102]; exact H) | exact H
   have Ny102 := Aside0.mk hy102; clear hy102; have H' := Aside0.mk H; clear H; go_enter Try.func87, Try.ntmps87; go_wp2_with (first | ((with_reducible refine gate_dst (N := 2) rfl ?_); refine be (cs := #[.int .i64 a0_0, .slice A0_1 l0_1.length c0_1]) (t := 25) ?_; intro gb101 hg w5 hbox hb; have BK101 := Aside0.mk (hbox); have GW101 := gz w hg (uB0 HB); have GE101 := gz w hg (uB0 HB); replace HB := Aside0.mk (below_step (uB0 HB) hb); clear hb hbox hg; obtain ⟨hcz6_0, hcz6_1, hfz6_0, hfz6_1⟩ := bc2 BK101) | ((with_reducible refine gate_dst (N := 12) rfl ?_); refine Kd.R_make (Kd.int .i64) _ 3 rfl (N := 12) rfl 26 _ _ rfl a0_0 rfl rfl Try.underlying26 (.int .i64 0) 8 info3 rfl (by decide) (by omega) 0 (ok := fun _ => True) (okp := fun _ => True) rfl (fun _ hk => hk) trivial (ua) (Nat.le_trans (Nat.mul_le_mul_right _ (ua : a0_0.toNat ≤ 35184372088832)) (by omega)) (Below.refl _ _) (Nat.le_refl _) ?_; intro v103 w7 ho8 hb hg_ hnew_; clear hg_ hnew_; (first | rw [← Ny102.out] at ho8 | (simp only [Int.reduceToNat] at ho8; rw [← Ny102.out] at ho8)); have HO104 := Aside0.mk (Kd.R_lower ho8 (below_size (uB1 HB GE101.out))); replace BK101 := bb BK101 hb; replace HB := Aside0.mk (below_step (uB1 HB GE101.out) hb); clear hb ho8)); go_loopg [6] k (fun kq v6 w' => ∃ (x5_1 : List Int) (x6_1 : Int), v6 = .int .i64 x6_1 ∧ Aside0 (spec_l3All.l0 kq a1 x5_1 x6_1 a0_0 l0_1 = some r) ∧ Aside0 (kq ≤ k) ∧ Aside0 (Kd.R (Kd.int .i64) 3 w' w.heap.size (fun _ => True) v103 x5_1) ∧ Aside0 (w'.heap[gb101]? = some (.cells #[.int .i64 a0_0, (.slice A0_1 l0_1.length c0_1)] 25 (0, 0))) ∧ Aside0 (Below w.heap.size w w'))
   case atStart => exact ⟨(y102), (0), ue, H', ⟨Nat.le_refl _⟩, ⟨ur HO104⟩, ⟨ub BK101⟩, ⟨uB1 HB GE101.out⟩⟩
   case round =>
    clear H'; try clear p2
    try clear c3
    try clear c3b0
    try clear c3b1
    try clear c4
    try clear c4b0
    try clear c4b1
    try clear c8
    try clear hcz6_0 hcz6_1 hfz6_0 hfz6_1
    obtain ⟨x5_1, x6_1, rfl, HA, HK1, HO_5, BK101, HB⟩ := hrel
    cases gk with
    | zero => exact absurd HA.out (by simp [spec_l3All.l0])
    | succ k1 =>
     have H := HA.out; clear HA; simp only [spec_l3All.l0] at H; by_cases c9 : x6_1 < a0_0
     ·
      rw [if_pos c9] at H; have c9b0 := dl c9; clear c9; by_cases c10 : 0 ≤ x6_1
      ·
       rw [if_pos c10] at H; have c10b0 := de c10; clear c10; by_cases c11 : x6_1 < (x5_1.length : Int)
       ·
        rw [if_pos c11] at H; have c11b0 := dl c11; clear c11; obtain ⟨y105, hy105⟩ : ∃ y_ : List Int, y_ = (x5_1.set (x6_1 : Int).toNat 99999) := ⟨_, rfl⟩
        replace H : (spec_l3All.l0 k1 a1 y105 (wrap64 (x6_1 + 1)) a0_0 l0_1) = some r := by first | (rw [hy105]; with_reducible exact H) | (have H2_ := (Option.bind_some _ _).symm.trans H; rw [hy105]; with_reducible exact H2_) | (have H2_ := (Option.bind_some _ _).symm.trans H; with_reducible exact H2_) | with_reducible exact H | (rw [hy105]; exact H) | exact H
        have Ny105 := Aside0.mk hy105; clear hy105; have H' := Aside0.mk H; clear H; obtain ⟨hcz13_0, hcz13_1, hfz13_0, hfz13_1⟩ := bc2 BK101; have p12 : 0 ≤ (x6_1 : Int) := ua; have q12 : (x6_1 : Int) < ((x5_1.length : Int) : Int) := ua; obtain ⟨go12, co12, eo12, gb12, gl12, cl12, HG12⟩ := Kd.R_form HO_5.out (by omega); (first | cases eo12 | (injection eo12 with ea_ en_ ec_; (first | subst ea_ | (injection ea_ with ea_; subst ea_)); subst ec_; clear en_)); have GB12 := Aside0.mk gb12; have GG12 := Aside0.mk HG12; clear gb12 gl12 HG12; obtain ⟨hx12_0, hf12_0⟩ := Kd.R_celln 0 HO_5.out (x6_1 : Int) p12 q12; replace p12 := eq_true p12; replace q12 := eq_true q12; have HP14 := Kd.R_putg HO_5.out (x6_1 : Int) 99999; go_wp2_with (first | ((with_reducible refine gate_store (t := 3) (p := 21) rfl ?_); refine store_event (t := 3) (p := 21) (v := ?vo_w15) (w1 := (wr.setCell ⟨go12, (x6_1 : Int).toNat, none⟩ (.int .i64 99999))) ?hg ?ho ?hn ?hr ?_; (case ho => rfl); (case hg => rfl); (case hn => rfl); (case hr => first | (go_simp; done) | (go_simp; rfl)); intro w15 hw; have hg : wr.grownBy w15 (some go12) := (by rw [hw]; exact HP14.2); have hp_ : Kd.R (Kd.int .i64) 3 w15 w.heap.size (fun _ => True) (.slice (some ⟨go12, 0, none⟩) x5_1.length co12) y105 := (by rw [hw, Ny105.out]; exact HP14.1); clear HP14; replace BK101 := bg BK101 hg (Kd.R_ne HO_5.out BK101.out (by decide)); replace HO_5 := Aside0.mk (hp_); replace HB := Aside0.mk ((by rw [hw]; exact below_set (HB.out) GB12.out : Below w.heap.size w w15)); clear hg hw hp_)); go_roundg k1
        case measure => have := HK1.out; omega
        case rel => exact ⟨(y105), (wrap64 (x6_1 + 1)), ue, H', ⟨by have := HK1.out; omega⟩, ⟨ur HO_5⟩, ⟨ub BK101⟩, ⟨uB1 HB GE101.out⟩⟩
       ·
        rw [if_neg c11] at H; exact absurd H (by simp)
      ·
       rw [if_neg c10] at H; exact absurd H (by simp)
     ·
      rw [if_neg c9] at H; have c9b0 := DL c9; clear c9; by_cases c16 : 0 ≤ a1
      ·
       rw [if_pos c16] at H; have c16b0 := de c16; clear c16; by_cases c17 : a1 < (x5_1.length : Int)
       ·
        rw [if_pos c17] at H; have c17b0 := dl c17; clear c17; obtain ⟨y106, hy106⟩ : ∃ y_ : List Int, y_ = (x5_1.set (a1 : Int).toNat 0) := ⟨_, rfl⟩
        replace H : (spec_l3All.l1 k1 y106 0 a0_0 l0_1) = some r := by first | (rw [hy106]; with_reducible exact H) | (have H2_ := (Option.bind_some _ _).symm.trans H; rw [hy106]; with_reducible exact H2_) | (have H2_ := (Option.bind_some _ _).symm.trans H; with_reducible exact H2_) | with_reducible exact H | (rw [hy106]; exact H) | exact H
        have Ny106 := Aside0.mk hy106; clear hy106; have H' := Aside0.mk H; clear H; obtain ⟨hcz19_0, hcz19_1, hfz19_0, hfz19_1⟩ := bc2 BK101; have p18 : 0 ≤ (a1 : Int) := ua; have q18 : (a1 : Int) < ((x5_1.length : Int) : Int) := ua; obtain ⟨go18, co18, eo18, gb18, gl18, cl18, HG18⟩ := Kd.R_form HO_5.out (by omega); (first | cases eo18 | (injection eo18 with ea_ en_ ec_; (first | subst ea_ | (injection ea_ with ea_; subst ea_)); subst ec_; clear en_)); have GB18 := Aside0.mk gb18; have GG18 := Aside0.mk HG18; clear gb18 gl18 HG18; obtain ⟨hx18_0, hf18_0⟩ := Kd.R_celln 0 HO_5.out (a1 : Int) p18 q18; replace p18 := eq_true p18; replace q18 := eq_true q18; have HP20 := Kd.R_putg HO_5.out (a1 : Int) 0; go_wp2_with (first | ((with_reducible refine gate_store (t := 3) (p := 24) rfl ?_); refine store_event (t := 3) (p := 24) (v := ?vo_w21) (w1 := (wr.setCell ⟨go18, (a1 : Int).toNat, none⟩ (.int .i64 0))) ?hg ?ho ?hn ?hr ?_; (case ho => rfl); (case hg => rfl); (case hn => rfl); (case hr => first | (go_simp; done) | (go_simp; rfl)); intro w21 hw; have hg : wr.grownBy w21 (some go18) := (by rw [hw]; exact HP20.2); have hp_ : Kd.R (Kd.int .i64) 3 w21 w.heap.size (fun _ => True) (.slice (some ⟨go18, 0, none⟩) x5_1.length co18) y106 := (by rw [hw, Ny106.out]; exact HP20.1); clear HP20; replace BK101 := bg BK101 hg (Kd.R_ne HO_5.out BK101.out (by decide)); replace HO_5 := Aside0.mk (hp_); replace HB := Aside0.mk ((by rw [hw]; exact below_set (HB.out) GB18.out : Below w.heap.size w w21)); clear hg hw hp_)); go_loopg [7] k1 (fun kq v7 w' => ∃ (x5_2 : List Int) (x7_2 : Int), v7 = .int .i64 x7_2 ∧ Aside0 (spec_l3All.l1 kq x5_2 x7_2 a0_0 l0_1 = some r) ∧ Aside0 (kq ≤ k1) ∧ Aside0 (Kd.R (Kd.int .i64) 3 w' w.heap.size (fun _ => True) (.slice (some ⟨go18, 0, none⟩) x5_1.length co18) x5_2) ∧ Aside0 (w'.heap[gb101]? = some (.cells #[.int .i64 a0_0, (.slice A0_1 l0_1.length c0_1)] 25 (0, 0))) ∧ Aside0 (Below w.heap.size w w'))
        case atStart => exact ⟨(y106), (0), ue, H', ⟨Nat.le_refl _⟩, ⟨ur HO_5⟩, ⟨ub BK101⟩, ⟨uB1 HB GE101.out⟩⟩
        case round =>
         clear H'; try clear c1
         try clear p1
         try clear q1
         try clear hx1
         try clear p2
         try clear c3
         try clear c3b0
         try clear c3b1
         try clear c4
         try clear c4b0
         try clear c4b1
         try clear p6
         try clear c8
         try clear c9
         try clear c9b0
         try clear c10
         try clear c10b0
         try clear c11
         try clear c11b0
         try clear p12
         try clear q12
         try clear hx12
         try clear hf12
         try clear c16
         try clear c16b0
         try clear c17
         try clear c17b0
         try clear p18
         try clear q18
         try clear hx18
         try clear hf18
         try clear hcz13_0 hcz13_1
         try clear hcz19_0 hcz19_1
         try clear hcz6_0 hcz6_1
         try clear hfz13_0 hfz13_1
         try clear hfz19_0 hfz19_1
         try clear hfz6_0 hfz6_1
         try clear hx12_0
         try clear hx18_0
         try clear p12
         try clear p18
         try clear p2
         try clear q12
         try clear q18
         obtain ⟨x5_2, x7_2, rfl, HA, HK2, HO_5, BK101, HB⟩ := hrel; have hl5_2 := (Kd.R_reads' HO_5.out).1; rw [hl5_2] at HO_5; (try simp only [hl5_2]); (try simp only [hl5_2] at BK101)
         cases gk with
         | zero => exact absurd HA.out (by simp [spec_l3All.l1])
         | succ k2 =>
          have H := HA.out; clear HA; simp only [spec_l3All.l1] at H; by_cases c22 : x7_2 < a0_0
          ·
           rw [if_pos c22] at H; have c22b0 := dl c22; clear c22; have H' := Aside0.mk H; clear H; obtain ⟨hcz23_0, hcz23_1, hfz23_0, hfz23_1⟩ := bc2 BK101; go_wp2; go_loopg [8] k2 (fun kq v8 w' => ∃ (x5_3 : List Int) (x8_3 : Int), v8 = .int .i64 x8_3 ∧ Aside0 (spec_l3All.l2 kq x5_3 x7_2 x8_3 a0_0 l0_1 = some r) ∧ Aside0 (kq ≤ k2) ∧ Aside0 (Kd.R (Kd.int .i64) 3 w' w.heap.size (fun _ => True) (.slice (some ⟨go18, 0, none⟩) x5_2.length co18) x5_3) ∧ Aside0 (w'.heap[gb101]? = some (.cells #[.int .i64 a0_0, (.slice A0_1 l0_1.length c0_1)] 25 (0, 0))) ∧ Aside0 (Below w.heap.size w w'))
           case atStart => exact ⟨(x5_2), (0), ue, H', ⟨Nat.le_refl _⟩, ⟨by (try simp only [hl5_2]); exact ur HO_5⟩, ⟨by (try simp only [hl5_2]); exact ub BK101⟩, ⟨uB1 HB GE101.out⟩⟩
           case round =>
            clear H'; try clear c1
            try clear p1
            try clear q1
            try clear hx1
            try clear c2
            try clear p2
            try clear c3
            try clear c3b0
            try clear c3b1
            try clear c4
            try clear c4b0
            try clear c4b1
            try clear p6
            try clear c8
            try clear c9
            try clear c9b0
            try clear c10
            try clear c10b0
            try clear c11
            try clear c11b0
            try clear p12
            try clear q12
            try clear hx12
            try clear hf12
            try clear c16
            try clear c16b0
            try clear c17
            try clear c17b0
            try clear p18
            try clear q18
            try clear hx18
            try clear hf18
            try clear c22
            try clear c22b0
            try clear hcz13_0 hcz13_1
            try clear hcz19_0 hcz19_1
            try clear hcz23_0 hcz23_1
            try clear hcz6_0 hcz6_1
            try clear hfz13_0 hfz13_1
            try clear hfz19_0 hfz19_1
            try clear hfz23_0 hfz23_1
            try clear hfz6_0 hfz6_1
            try clear hx12_0
            try clear hx18_0
            try clear p1
            try clear p12
            try clear p18
            try clear p2
            try clear p6
            try clear q1
            try clear q12
            try clear q18
            obtain ⟨x5_3, x8_3, rfl, HA, HK3, HO_5, BK101, HB⟩ := hrel; have hl5_3 := (Kd.R_reads' HO_5.out).1; rw [hl5_3] at HO_5; (try simp only [hl5_3]); (try simp only [hl5_3] at BK101)
            cases gk with
            | zero => exact absurd HA.out (by simp [spec_l3All.l2])
            | succ k3 =>
             have H := HA.out; clear HA; simp only [spec_l3All.l2] at H; by_cases c24 : x8_3 < (l0_1.length : Int)
             ·
              rw [if_pos c24] at H; have c24b0 := dl c24; clear c24; by_cases c25 : 0 ≤ x8_3
              ·
               rw [if_pos c25] at H; have c25b0 := de c25; clear c25; by_cases c26 : 0 ≤ ((rd_T33 l0_1 x8_3).f0)
               ·
                rw [if_pos c26] at H; have c26b0 := de c26; clear c26; by_cases c27 : ((rd_T33 l0_1 x8_3).f0) < (x5_3.length : Int)
                ·
                 rw [if_pos c27] at H; have c27b0 := dl c27; clear c27; by_cases c28 : (rd x5_3 ((rd_T33 l0_1 x8_3).f0)) < 99999
                 ·
                  rw [if_pos c28] at H; have c28b0 := dl c28; clear c28; by_cases c29 : 0 ≤ ((rd_T33 l0_1 x8_3).f1)
                  ·
                   rw [if_pos c29] at H; have c29b0 := de c29; clear c29; by_cases c30 : ((rd_T33 l0_1 x8_3).f1) < (x5_3.length : Int)
                   ·
                    rw [if_pos c30] at H; have c30b0 := dl c30; clear c30; have HH_ := Aside0.mk H; clear H; obtain ⟨hcz31_0, hcz31_1, hfz31_0, hfz31_1⟩ := bc2 BK101; have p107 : 0 ≤ (x8_3 : Int) := ua; have q107 : x8_3 < (l0_1.length : Int) := ua; obtain ⟨ad107, e107, hx107_0, hx107_1, hx107_2, hx107_3, hx107_4⟩ := at_T33 HR0_1.out x8_3 p107 q107
                    cases e107
                    replace hx107_0 := uc HB hx107_0; replace hx107_1 := uc HB hx107_1; replace hx107_2 := uc HB hx107_2; replace hx107_3 := uc HB hx107_3; replace hx107_4 := uc HB hx107_4; replace p107 := eq_true p107; replace q107 := eq_true q107; try go_wp2_with (first | ((with_reducible refine gate_dst (N := 9) rfl ?_); refine be (cs := #[.int .i64 0, .int .i64 0, .int .i64 0, .int .i64 0, .int .i64 0]) (t := 33) ?_; intro gb108 hg w32 hbox hb; replace HO_5 := Aside0.mk (Kd.R_below (ur HO_5) hb); have BK108 := Aside0.mk (hbox); have GW108 := gz w hg (uB1 HB GE101.out); have GE108 := gz w hg (uB1 HB GE101.out); replace HB := Aside0.mk (below_step (uB1 HB GE101.out) hb); have NB101_108 := gl hg BK101; have NB108_101 := gr hg BK101; replace BK101 := bb BK101 hb; clear hb hbox hg; have hnb33 := NB108_101.out; have hnc33 := NB101_108.out; obtain ⟨hcz34_0, hcz34_1, hcz34_2, hcz34_3, hcz34_4, hfz34_0, hfz34_1, hfz34_2, hfz34_3, hfz34_4⟩ := bc5 BK108))
                    have n0_ : Aside0 (Kd.R (Kd.int .i64) 3 (((((w32.setCell ⟨gb108, 0, none⟩ (.int .i64 ((rd_T33 l0_1 x8_3).f0))).setCell ⟨gb108, 1, none⟩ (.int .i64 ((rd_T33 l0_1 x8_3).f1))).setCell ⟨gb108, 2, none⟩ (.int .i64 ((rd_T33 l0_1 x8_3).f2))).setCell ⟨gb108, 3, none⟩ (.int .i64 ((rd_T33 l0_1 x8_3).f3))).setCell ⟨gb108, 4, none⟩ (.int .i64 ((rd_T33 l0_1 x8_3).f4))) w.heap.size (fun _ => True) (.slice (some ⟨go18, 0, none⟩) x5_3.length co18) x5_3) := ⟨by (with_reducible repeat (first | apply Kd.R_alloc | apply Kd.R_drewN | apply Kd.R_drew)); exact Kd.R_mono (rf5 HO_5 BK108) (fun _ hk => trivial)⟩
                    have n1_ : Aside0 ((((((w32.setCell ⟨gb108, 0, none⟩ (.int .i64 ((rd_T33 l0_1 x8_3).f0))).setCell ⟨gb108, 1, none⟩ (.int .i64 ((rd_T33 l0_1 x8_3).f1))).setCell ⟨gb108, 2, none⟩ (.int .i64 ((rd_T33 l0_1 x8_3).f2))).setCell ⟨gb108, 3, none⟩ (.int .i64 ((rd_T33 l0_1 x8_3).f3))).setCell ⟨gb108, 4, none⟩ (.int .i64 ((rd_T33 l0_1 x8_3).f4))).heap[gb101]? = some (.cells #[.int .i64 a0_0, .slice (some ad107) l0_1.length c0_1] 25 (0, 0))) := ⟨by (with_reducible repeat first | apply zbn | apply zbd | apply zba); refine fa5 ?_ NB101_108; exact ub BK101⟩
                    have n2_ : Aside0 ((((((w32.setCell ⟨gb108, 0, none⟩ (.int .i64 ((rd_T33 l0_1 x8_3).f0))).setCell ⟨gb108, 1, none⟩ (.int .i64 ((rd_T33 l0_1 x8_3).f1))).setCell ⟨gb108, 2, none⟩ (.int .i64 ((rd_T33 l0_1 x8_3).f2))).setCell ⟨gb108, 3, none⟩ (.int .i64 ((rd_T33 l0_1 x8_3).f3))).setCell ⟨gb108, 4, none⟩ (.int .i64 ((rd_T33 l0_1 x8_3).f4))).heap[gb108]? = some (.cells #[.int .i64 ((rd_T33 l0_1 x8_3).f0), .int .i64 ((rd_T33 l0_1 x8_3).f1), .int .i64 ((rd_T33 l0_1 x8_3).f2), .int .i64 ((rd_T33 l0_1 x8_3).f3), .int .i64 ((rd_T33 l0_1 x8_3).f4)] 33 (0, 0))) := ⟨by (with_reducible repeat first | apply zbn | apply zbd | apply zba); refine pu5 (.int .i64 0) (.int .i64 0) (.int .i64 0) (.int .i64 0) (.int .i64 0) ?_; exact ub BK108⟩
                    have n3_ : Aside0 (Below w.heap.size w (((((w32.setCell ⟨gb108, 0, none⟩ (.int .i64 ((rd_T33 l0_1 x8_3).f0))).setCell ⟨gb108, 1, none⟩ (.int .i64 ((rd_T33 l0_1 x8_3).f1))).setCell ⟨gb108, 2, none⟩ (.int .i64 ((rd_T33 l0_1 x8_3).f2))).setCell ⟨gb108, 3, none⟩ (.int .i64 ((rd_T33 l0_1 x8_3).f3))).setCell ⟨gb108, 4, none⟩ (.int .i64 ((rd_T33 l0_1 x8_3).f4)))) := ⟨uB2 HB GE101.out GE108.out⟩
                    (try clear HO_5); (try clear BK101); (try clear BK108); (try clear HB); generalize (((((w32.setCell ⟨gb108, 0, none⟩ (.int .i64 ((rd_T33 l0_1 x8_3).f0))).setCell ⟨gb108, 1, none⟩ (.int .i64 ((rd_T33 l0_1 x8_3).f1))).setCell ⟨gb108, 2, none⟩ (.int .i64 ((rd_T33 l0_1 x8_3).f2))).setCell ⟨gb108, 3, none⟩ (.int .i64 ((rd_T33 l0_1 x8_3).f3))).setCell ⟨gb108, 4, none⟩ (.int .i64 ((rd_T33 l0_1 x8_3).f4))) = w35 at n0_ n1_ n2_ n3_ ⊢; have HO_5 := n0_; have BK101 := n1_; have BK108 := n2_; have HB := n3_; clear n0_ n1_ n2_ n3_; replace HO_5 := Aside0.mk (Kd.R_drew HO_5.out); replace BK101 := Aside0.mk (blk_drew BK101.out); replace BK108 := Aside0.mk (blk_drew BK108.out); replace HB := Aside0.mk (below_drew1 HB.out); have p109 : 0 ≤ (((rd_T33 l0_1 x8_3).f0) : Int) := ua; have q109 : ((rd_T33 l0_1 x8_3).f0) < (x5_3.length : Int) := ua; obtain ⟨ad109, e109, hx109_0⟩ := Kd.at_int (Kd.R_reads' HO_5.out).2.2 ((rd_T33 l0_1 x8_3).f0) p109 q109; obtain rfl : (⟨go18, 0, none⟩ : Addr) = ad109 := (by injection e109)
                    (first | simp only [add_plain] at hx109_0 | simp only [add_at] at hx109_0 | simp only [Addr.add, Nat.zero_add] at hx109_0 | skip); replace p109 := eq_true p109; replace q109 := eq_true q109; have p110 : 0 ≤ (((rd_T33 l0_1 x8_3).f0) : Int) := ua; have q110 : ((rd_T33 l0_1 x8_3).f0) < (x5_3.length : Int) := ua; obtain ⟨ad110, e110, hx110_0⟩ := Kd.at_int (Kd.R_reads' HO_5.out).2.2 ((rd_T33 l0_1 x8_3).f0) p110 q110; obtain rfl : (⟨go18, 0, none⟩ : Addr) = ad110 := (by injection e110)
                    (first | simp only [add_plain] at hx110_0 | simp only [add_at] at hx110_0 | simp only [Addr.add, Nat.zero_add] at hx110_0 | skip); replace p110 := eq_true p110; replace q110 := eq_true q110; have p111 : 0 ≤ (((rd_T33 l0_1 x8_3).f1) : Int) := ua; have q111 : ((rd_T33 l0_1 x8_3).f1) < (x5_3.length : Int) := ua; obtain ⟨ad111, e111, hx111_0⟩ := Kd.at_int (Kd.R_reads' HO_5.out).2.2 ((rd_T33 l0_1 x8_3).f1) p111 q111; obtain rfl : (⟨go18, 0, none⟩ : Addr) = ad111 := (by injection e111)
                    (first | simp only [add_plain] at hx111_0 | simp only [add_at] at hx111_0 | simp only [Addr.add, Nat.zero_add] at hx111_0 | skip); replace p111 := eq_true p111; replace q111 := eq_true q111; refine start_ (n := 22) (S := fun w' => w'.cell? ⟨gb108, 0, none⟩ = some (.int .i64 ((rd_T33 l0_1 x8_3).f0)) ∧ w'.cell? ⟨gb108, 1, none⟩ = some (.int .i64 ((rd_T33 l0_1 x8_3).f1)) ∧ w'.cell? ⟨gb108, 2, none⟩ = some (.int .i64 ((rd_T33 l0_1 x8_3).f2)) ∧ w'.cell? ⟨gb108, 3, none⟩ = some (.int .i64 ((rd_T33 l0_1 x8_3).f3)) ∧ w'.cell? ⟨gb108, 4, none⟩ = some (.int .i64 ((rd_T33 l0_1 x8_3).f4)) ∧ w'.cell? ⟨go18, (((rd_T33 l0_1 x8_3).f0)).toNat, none⟩ = some (.int .i64 (rd x5_3 ((rd_T33 l0_1 x8_3).f0))) ∧ w'.cell? ⟨go18, (((rd_T33 l0_1 x8_3).f0)).toNat, none⟩ = some (.int .i64 (rd x5_3 ((rd_T33 l0_1 x8_3).f0))) ∧ w'.cell? ⟨go18, (((rd_T33 l0_1 x8_3).f1)).toNat, none⟩ = some (.int .i64 (rd x5_3 ((rd_T33 l0_1 x8_3).f1)))) (ds := []) (zt 22 0) (by kernel_rfl) rfl (by kernel_rfl) (b5x BK108 ⟨hx109_0, hx110_0, hx111_0⟩) (fun hHeld => ?_); refine with_tabW spec_l3All.tab14 spec_l3All.bits14 (fun HT_ HW_ => ?_); generalize w35.drew = w36 at HO_5 BK101 BK108 HB hx109_0 hx110_0 hx111_0 hHeld ⊢; refine qz HT_ 0 ?_; refine qz HT_ 1 ?_; refine qt HT_ HW_ hHeld 2 ?_; refine qz HT_ 3 ?_; refine qt HT_ HW_ hHeld 4 ?_; refine qz HT_ 5 ?_; refine qz HT_ 6 ?_; refine qz HT_ 7 ?_; refine qz HT_ 8 ?_; refine qz HT_ 12 ?_; refine qz HT_ 15 ?_; refine qz HT_ 16 ?_; refine qt HT_ HW_ hHeld 9 ?_; refine qz HT_ 10 ?_; refine qt HT_ HW_ hHeld 11 ?_; refine qt HT_ HW_ hHeld 13 ?_; refine qz HT_ 14 ?_; refine qt HT_ HW_ hHeld 17 ?_; refine qz HT_ 18 ?_; refine qt HT_ HW_ hHeld 19 ?_; refine qz HT_ 20 ?_; refine qz HT_ 21 ?_; refine done_ (done_of HT_.out (by kernel_rfl)) ?_; have H := HH_.out; clear HH_; by_cases c37 : (wrap64 ((rd x5_3 ((rd_T33 l0_1 x8_3).f0)) + ((rd_T33 l0_1 x8_3).f2))) < (rd x5_3 ((rd_T33 l0_1 x8_3).f1))
                    ·
                     rw [if_pos c37] at H; have c37b0 := dl c37; try simp only [c37b0]
                     clear c37; obtain ⟨y113, hy113⟩ : ∃ y_ : List Int, y_ = (x5_3.set (((rd_T33 l0_1 x8_3).f1) : Int).toNat (wrap64 ((rd x5_3 ((rd_T33 l0_1 x8_3).f0)) + ((rd_T33 l0_1 x8_3).f2)))) := ⟨_, rfl⟩
                     replace H : (spec_l3All.l2 k3 y113 x7_2 (wrap64 (x8_3 + 1)) a0_0 l0_1) = some r := by first | (rw [hy113]; with_reducible exact H) | (have H2_ := (Option.bind_some _ _).symm.trans H; rw [hy113]; with_reducible exact H2_) | (have H2_ := (Option.bind_some _ _).symm.trans H; with_reducible exact H2_) | with_reducible exact H | (rw [hy113]; exact H) | exact H
                     have Ny113 := Aside0.mk hy113; clear hy113; have H' := Aside0.mk H; clear H; try go_wp2
                     replace HO_5 := Aside0.mk (Kd.R_drew HO_5.out); replace BK101 := Aside0.mk (blk_drew BK101.out); replace BK108 := Aside0.mk (blk_drew BK108.out); replace HB := Aside0.mk (below_drew1 HB.out); have p112 : 0 ≤ (((rd_T33 l0_1 x8_3).f0) : Int) := ua; have q112 : ((rd_T33 l0_1 x8_3).f0) < (x5_3.length : Int) := ua; obtain ⟨ad112, e112, hx112_0⟩ := Kd.at_int (Kd.R_reads' HO_5.out).2.2 ((rd_T33 l0_1 x8_3).f0) p112 q112; obtain rfl : (⟨go18, 0, none⟩ : Addr) = ad112 := (by injection e112)
                     (first | simp only [add_plain] at hx112_0 | simp only [add_at] at hx112_0 | simp only [Addr.add, Nat.zero_add] at hx112_0 | skip); replace p112 := eq_true p112; replace q112 := eq_true q112; have p38 : 0 ≤ (((rd_T33 l0_1 x8_3).f1) : Int) := ua; have q38 : (((rd_T33 l0_1 x8_3).f1) : Int) < ((x5_3.length : Int) : Int) := ua; obtain ⟨hx38_0, hf38_0⟩ := Kd.R_celln 0 HO_5.out (((rd_T33 l0_1 x8_3).f1) : Int) p38 q38; replace p38 := eq_true p38; replace q38 := eq_true q38; have HP38 := Kd.R_putn HO_5.out (((rd_T33 l0_1 x8_3).f1) : Int) (wrap64 ((rd x5_3 ((rd_T33 l0_1 x8_3).f0)) + ((rd_T33 l0_1 x8_3).f2))); rw [← Ny113.out] at HP38; have HQ38 := Aside0.mk HP38; clear HP38; refine start_ (n := 13) (S := fun w' => w'.cell? ⟨gb108, 0, none⟩ = some (.int .i64 ((rd_T33 l0_1 x8_3).f0)) ∧ w'.cell? ⟨gb108, 1, none⟩ = some (.int .i64 ((rd_T33 l0_1 x8_3).f1)) ∧ w'.cell? ⟨gb108, 2, none⟩ = some (.int .i64 ((rd_T33 l0_1 x8_3).f2)) ∧ w'.cell? ⟨gb108, 3, none⟩ = some (.int .i64 ((rd_T33 l0_1 x8_3).f3)) ∧ w'.cell? ⟨gb108, 4, none⟩ = some (.int .i64 ((rd_T33 l0_1 x8_3).f4)) ∧ w'.cell? ⟨go18, (((rd_T33 l0_1 x8_3).f0)).toNat, none⟩ = some (.int .i64 (rd x5_3 ((rd_T33 l0_1 x8_3).f0)))) (ds := [12]) (zt 13 0) (by kernel_rfl) rfl (by kernel_rfl) (b5x BK108 hx112_0) (fun hHeld => ?_); refine with_tabW spec_l3All.tab15 spec_l3All.bits15 (fun HT_ HW_ => ?_); generalize w36.drew = w37 at HO_5 BK101 BK108 HB HQ38 hf38_0 hx112_0 hx38_0 hHeld ⊢; refine qz HT_ 0 ?_; refine qz HT_ 1 ?_; refine qz HT_ 3 ?_; refine qz HT_ 4 ?_; refine qz HT_ 8 ?_; refine qt HT_ HW_ hHeld 2 ?_; refine qt HT_ HW_ hHeld 5 ?_; refine qz HT_ 6 ?_; refine qt HT_ HW_ hHeld 7 ?_; refine qt HT_ HW_ hHeld 9 ?_; refine qz HT_ 10 ?_; refine qz HT_ 11 ?_; refine last_ (i := 12) (N := none) (zt 13 8191) rfl rfl (one_of HT_.out (by kernel_rfl)) (by decide) (fun K hK => ?_); refine skip_ (w1 := ?_) (by rfl) rfl ?_ ?_; rotate_left
                     ·
                      go_simp; rfl
                     refine hK.out _ _ ?_; clear hK K; refine done_ (done_of HT_.out (by kernel_rfl)) ?_; try go_wp2
                     (try simp only [← hl5_3]); go_roundg k3
                     case measure => have := HK1.out; have := HK2.out; have := HK3.out; omega
                     case rel => exact ⟨(y113), (wrap64 (x8_3 + 1)), ue, H', ⟨by have := HK1.out; have := HK2.out; have := HK3.out; omega⟩, ⟨by (try simp only [hl5_2]); (try simp only [hl5_3]); exact ur HQ38⟩, ⟨by (try simp only [hl5_2]); (try simp only [hl5_3]); (with_reducible repeat first | apply zbn | apply zbd | apply zba); refine blk_far ?_ (by have h_ := Kd.R_ne HO_5.out BK101.out (by decide); intro e_; exact h_ (by rw [e_]; rfl)) _; exact ub BK101⟩, ⟨uB3 HB GB18.out GE101.out GE108.out⟩⟩
                    ·
                     rw [if_neg c37] at H; have c37b0 := DL c37; try simp only [c37b0]
                     clear c37; have H' := Aside0.mk H; clear H; go_wp2; (try simp only [← hl5_3]); go_roundg k3
                     case measure => have := HK1.out; have := HK2.out; have := HK3.out; omega
                     case rel => exact ⟨(x5_3), (wrap64 (x8_3 + 1)), ue, H', ⟨by have := HK1.out; have := HK2.out; have := HK3.out; omega⟩, ⟨by (try simp only [hl5_2]); (try simp only [hl5_3]); exact ur HO_5⟩, ⟨by (try simp only [hl5_2]); (try simp only [hl5_3]); exact ub BK101⟩, ⟨uB2 HB GE101.out GE108.out⟩⟩
                   ·
                    rw [if_neg c30] at H; exact absurd H (by simp)
                  ·
                   rw [if_neg c29] at H; exact absurd H (by simp)
                 ·
                  rw [if_neg c28] at H; have c28b0 := DL c28; clear c28; have H' := Aside0.mk H; clear H; obtain ⟨hcz39_0, hcz39_1, hfz39_0, hfz39_1⟩ := bc2 BK101; have p107 : 0 ≤ (x8_3 : Int) := ua; have q107 : x8_3 < (l0_1.length : Int) := ua; obtain ⟨ad107, e107, hx107_0, hx107_1, hx107_2, hx107_3, hx107_4⟩ := at_T33 HR0_1.out x8_3 p107 q107
                  cases e107
                  replace hx107_0 := uc HB hx107_0; replace hx107_1 := uc HB hx107_1; replace hx107_2 := uc HB hx107_2; replace hx107_3 := uc HB hx107_3; replace hx107_4 := uc HB hx107_4; replace p107 := eq_true p107; replace q107 := eq_true q107; try go_wp2_with (first | ((with_reducible refine gate_dst (N := 9) rfl ?_); refine be (cs := #[.int .i64 0, .int .i64 0, .int .i64 0, .int .i64 0, .int .i64 0]) (t := 33) ?_; intro gb108 hg w40 hbox hb; replace HO_5 := Aside0.mk (Kd.R_below (ur HO_5) hb); have BK108 := Aside0.mk (hbox); have GW108 := gz w hg (uB1 HB GE101.out); have GE108 := gz w hg (uB1 HB GE101.out); replace HB := Aside0.mk (below_step (uB1 HB GE101.out) hb); have NB101_108 := gl hg BK101; have NB108_101 := gr hg BK101; replace BK101 := bb BK101 hb; clear hb hbox hg; have hnb41 := NB108_101.out; have hnc41 := NB101_108.out; obtain ⟨hcz42_0, hcz42_1, hcz42_2, hcz42_3, hcz42_4, hfz42_0, hfz42_1, hfz42_2, hfz42_3, hfz42_4⟩ := bc5 BK108))
                  have n0_ : Aside0 (Kd.R (Kd.int .i64) 3 (((((w40.setCell ⟨gb108, 0, none⟩ (.int .i64 ((rd_T33 l0_1 x8_3).f0))).setCell ⟨gb108, 1, none⟩ (.int .i64 ((rd_T33 l0_1 x8_3).f1))).setCell ⟨gb108, 2, none⟩ (.int .i64 ((rd_T33 l0_1 x8_3).f2))).setCell ⟨gb108, 3, none⟩ (.int .i64 ((rd_T33 l0_1 x8_3).f3))).setCell ⟨gb108, 4, none⟩ (.int .i64 ((rd_T33 l0_1 x8_3).f4))) w.heap.size (fun _ => True) (.slice (some ⟨go18, 0, none⟩) x5_3.length co18) x5_3) := ⟨by (with_reducible repeat (first | apply Kd.R_alloc | apply Kd.R_drewN | apply Kd.R_drew)); exact Kd.R_mono (rf5 HO_5 BK108) (fun _ hk => trivial)⟩
                  have n1_ : Aside0 ((((((w40.setCell ⟨gb108, 0, none⟩ (.int .i64 ((rd_T33 l0_1 x8_3).f0))).setCell ⟨gb108, 1, none⟩ (.int .i64 ((rd_T33 l0_1 x8_3).f1))).setCell ⟨gb108, 2, none⟩ (.int .i64 ((rd_T33 l0_1 x8_3).f2))).setCell ⟨gb108, 3, none⟩ (.int .i64 ((rd_T33 l0_1 x8_3).f3))).setCell ⟨gb108, 4, none⟩ (.int .i64 ((rd_T33 l0_1 x8_3).f4))).heap[gb101]? = some (.cells #[.int .i64 a0_0, .slice (some ad107) l0_1.length c0_1] 25 (0, 0))) := ⟨by (with_reducible repeat first | apply zbn | apply zbd | apply zba); refine fa5 ?_ NB101_108; exact ub BK101⟩
                  have n2_ : Aside0 ((((((w40.setCell ⟨gb108, 0, none⟩ (.int .i64 ((rd_T33 l0_1 x8_3).f0))).setCell ⟨gb108, 1, none⟩ (.int .i64 ((rd_T33 l0_1 x8_3).f1))).setCell ⟨gb108, 2, none⟩ (.int .i64 ((rd_T33 l0_1 x8_3).f2))).setCell ⟨gb108, 3, none⟩ (.int .i64 ((rd_T33 l0_1 x8_3).f3))).setCell ⟨gb108, 4, none⟩ (.int .i64 ((rd_T33 l0_1 x8_3).f4))).heap[gb108]? = some (.cells #[.int .i64 ((rd_T33 l0_1 x8_3).f0), .int .i64 ((rd_T33 l0_1 x8_3).f1), .int .i64 ((rd_T33 l0_1 x8_3).f2), .int .i64 ((rd_T33 l0_1 x8_3).f3), .int .i64 ((rd_T33 l0_1 x8_3).f4)] 33 (0, 0))) := ⟨by (with_reducible repeat first | apply zbn | apply zbd | apply zba); refine pu5 (.int .i64 0) (.int .i64 0) (.int .i64 0) (.int .i64 0) (.int .i64 0) ?_; exact ub BK108⟩
                  have n3_ : Aside0 (Below w.heap.size w (((((w40.setCell ⟨gb108, 0, none⟩ (.int .i64 ((rd_T33 l0_1 x8_3).f0))).setCell ⟨gb108, 1, none⟩ (.int .i64 ((rd_T33 l0_1 x8_3).f1))).setCell ⟨gb108, 2, none⟩ (.int .i64 ((rd_T33 l0_1 x8_3).f2))).setCell ⟨gb108, 3, none⟩ (.int .i64 ((rd_T33 l0_1 x8_3).f3))).setCell ⟨gb108, 4, none⟩ (.int .i64 ((rd_T33 l0_1 x8_3).f4)))) := ⟨uB2 HB GE101.out GE108.out⟩
                  (try clear HO_5); (try clear BK101); (try clear BK108); (try clear HB); generalize (((((w40.setCell ⟨gb108, 0, none⟩ (.int .i64 ((rd_T33 l0_1 x8_3).f0))).setCell ⟨gb108, 1, none⟩ (.int .i64 ((rd_T33 l0_1 x8_3).f1))).setCell ⟨gb108, 2, none⟩ (.int .i64 ((rd_T33 l0_1 x8_3).f2))).setCell ⟨gb108, 3, none⟩ (.int .i64 ((rd_T33 l0_1 x8_3).f3))).setCell ⟨gb108, 4, none⟩ (.int .i64 ((rd_T33 l0_1 x8_3).f4))) = w43 at n0_ n1_ n2_ n3_ ⊢; have HO_5 := n0_; have BK101 := n1_; have BK108 := n2_; have HB := n3_; clear n0_ n1_ n2_ n3_; replace HO_5 := Aside0.mk (Kd.R_drew HO_5.out); replace BK101 := Aside0.mk (blk_drew BK101.out); replace BK108 := Aside0.mk (blk_drew BK108.out); replace HB := Aside0.mk (below_drew1 HB.out); have p109 : 0 ≤ (((rd_T33 l0_1 x8_3).f0) : Int) := ua; have q109 : ((rd_T33 l0_1 x8_3).f0) < (x5_3.length : Int) := ua; obtain ⟨ad109, e109, hx109_0⟩ := Kd.at_int (Kd.R_reads' HO_5.out).2.2 ((rd_T33 l0_1 x8_3).f0) p109 q109; obtain rfl : (⟨go18, 0, none⟩ : Addr) = ad109 := (by injection e109)
                  (first | simp only [add_plain] at hx109_0 | simp only [add_at] at hx109_0 | simp only [Addr.add, Nat.zero_add] at hx109_0 | skip); replace p109 := eq_true p109; replace q109 := eq_true q109; refine start_ (n := 22) (S := fun w' => w'.cell? ⟨gb108, 0, none⟩ = some (.int .i64 ((rd_T33 l0_1 x8_3).f0)) ∧ w'.cell? ⟨gb108, 1, none⟩ = some (.int .i64 ((rd_T33 l0_1 x8_3).f1)) ∧ w'.cell? ⟨gb108, 2, none⟩ = some (.int .i64 ((rd_T33 l0_1 x8_3).f2)) ∧ w'.cell? ⟨gb108, 3, none⟩ = some (.int .i64 ((rd_T33 l0_1 x8_3).f3)) ∧ w'.cell? ⟨gb108, 4, none⟩ = some (.int .i64 ((rd_T33 l0_1 x8_3).f4)) ∧ w'.cell? ⟨go18, (((rd_T33 l0_1 x8_3).f0)).toNat, none⟩ = some (.int .i64 (rd x5_3 ((rd_T33 l0_1 x8_3).f0)))) (ds := []) (zt 22 0) (by kernel_rfl) rfl (by kernel_rfl) (b5x BK108 hx109_0) (fun hHeld => ?_); refine with_tabW spec_l3All.tab14 spec_l3All.bits14 (fun HT_ HW_ => ?_); generalize w43.drew = w44 at HO_5 BK101 BK108 HB hx109_0 hHeld ⊢; refine qz HT_ 0 ?_; refine qz HT_ 1 ?_; refine qt HT_ HW_ hHeld 2 ?_; refine qz HT_ 3 ?_; refine qt HT_ HW_ hHeld 4 ?_; refine qz HT_ 5 ?_; refine qz HT_ 6 ?_; refine qn HT_ 7 ?_; refine qn HT_ 8 ?_; refine qn HT_ 9 ?_; refine qn HT_ 10 ?_; refine qn HT_ 11 ?_; refine qn HT_ 12 ?_; refine qn HT_ 13 ?_; refine qn HT_ 14 ?_; refine qn HT_ 15 ?_; refine qn HT_ 16 ?_; refine qn HT_ 17 ?_; refine qn HT_ 18 ?_; refine qn HT_ 19 ?_; refine qn HT_ 20 ?_; refine qz HT_ 21 ?_; refine done_ (done_of HT_.out (by kernel_rfl)) ?_; try go_wp2
                  (try simp only [← hl5_3]); go_roundg k3
                  case measure => have := HK1.out; have := HK2.out; have := HK3.out; omega
                  case rel => exact ⟨(x5_3), (wrap64 (x8_3 + 1)), ue, H', ⟨by have := HK1.out; have := HK2.out; have := HK3.out; omega⟩, ⟨by (try simp only [hl5_2]); (try simp only [hl5_3]); exact ur HO_5⟩, ⟨by (try simp only [hl5_2]); (try simp only [hl5_3]); exact ub BK101⟩, ⟨uB2 HB GE101.out GE108.out⟩⟩
                ·
                 rw [if_neg c27] at H; exact absurd H (by simp)
               ·
                rw [if_neg c26] at H; exact absurd H (by simp)
              ·
               rw [if_neg c25] at H; exact absurd H (by simp)
             ·
              rw [if_neg c24] at H; have c24b0 := DL c24; clear c24; have H' := Aside0.mk H; clear H; obtain ⟨hcz45_0, hcz45_1, hfz45_0, hfz45_1⟩ := bc2 BK101; go_wp2; (try simp only [← hl5_2, ← hl5_3]); go_roundg k3
              case measure => have := HK1.out; have := HK2.out; have := HK3.out; omega
              case rel => exact ⟨(x5_3), (wrap64 (x7_2 + 1)), ue, H', ⟨by have := HK1.out; have := HK2.out; have := HK3.out; omega⟩, ⟨by (try simp only [hl5_2]); (try simp only [hl5_3]); exact ur HO_5⟩, ⟨by (try simp only [hl5_2]); (try simp only [hl5_3]); exact ub BK101⟩, ⟨uB1 HB GE101.out⟩⟩
          ·
           rw [if_neg c22] at H; have c22b0 := DL c22; clear c22; obtain rfl := Option.some.inj H; obtain ⟨hcz46_0, hcz46_1, hfz46_0, hfz46_1⟩ := bc2 BK101; go_wp2; go_ret; exact ⟨_, by first | rfl | (simp [errW_none, errW_some] <;> rfl) | (simp [*, errW_none, errW_some] <;> rfl), by (with_reducible repeat (first | apply Kd.R_alloc | apply Kd.R_drewN | apply Kd.R_drew)); exact HO_5.out, uB1 HB GE101.out⟩
       ·
        rw [if_neg c17] at H; exact absurd H (by simp)
      ·
       rw [if_neg c16] at H; exact absurd H (by simp)
  ·
   rw [if_neg c4] at H; exact absurd H (by simp)
 ·
  rw [if_neg c3] at H; exact absurd H (by simp)

end Go.Proofs.Ytblpdfgplifccaa.P
