-- written for this claim by a program (wip/gen/myprint.py over the print tool). Not trusted: Lean checks it.
import Derived.Test.YtcklifkbodmoaaaPx0
import Derived.Test.YtcklifkbodmoaaaHUp
import Derived.Test.YtcklifkbodmoaaaHFk
import Derived.Test.YtcklifkbodmoaaaPFSpecL7Next
namespace Go.Proofs.Ytcklifkbodmoaaa.P
open Go.RowKit Go.Proofs.YtcklifkbodmoaaaV.PrintWords Go.Proofs.YtcklifkbodmoaaaV.PrintLast
set_option linter.unusedVariables false
set_option linter.unusedSimpArgs false

/-! ### spec_l7All: function 72 -/
mutual
def spec_l7All.l0 : Nat → Int → Int → Int → List Int → Int → Int → Int → List (S32) → Option ((List (List Int)))
 | 0, _, _, _, _, _, _, _, _ => none
 | k + 1, x1, x2, x3, x9, x10, x102000, x102001, x102002 => if x10 < x102000 then (if 0 ≤ x10 then (if x10 < (x9.length : Int) then (spec_l7All.l0 k x1 x2 x3 (x9.set (x10 : Int).toNat 99999) (wrap64 (x10 + 1)) x102000 x102001 x102002) else (none)) else (none)) else (if 0 ≤ x1 then (if x1 < (x9.length : Int) then (spec_l7All.l1 k x1 x2 x3 (([(x9.set (x1 : Int).toNat x2)] : List (List Int))) 0 x102000 x102001 x102002) else (none)) else (none))
def spec_l7All.l1 : Nat → Int → Int → Int → List (List Int) → Int → Int → Int → List (S32) → Option ((List (List Int)))
 | 0, _, _, _, _, _, _, _, _ => none
 | k + 1, x1, x2, x3, x11, x12, x102000, x102001, x102002 => if x12 < x3 then (if 0 ≤ x12 then (if x12 < (x11.length : Int) then ((spec_l7Next.f k x102000 x102001 x102002 (rd_L3 x11 x12) x1 x2).bind fun t111 => (if x11.length < 5864062014805 then (spec_l7All.l1 k x1 x2 x3 (x11 ++ [t111]) (wrap64 (x12 + 1)) x102000 x102001 x102002) else (none))) else (none)) else (none)) else (some x11)
end
def spec_l7All.f (k : Nat) (a0_0 : Int) (a0_1 : Int) (l0_2 : List (S32)) (a1 : Int) (a2 : Int) (a3 : Int) : Option ((List (List Int))) := if 0 ≤ a0_0 then (if (a0_0 : Int).toNat ≤ 35184372088832 then (spec_l7All.l0 k a1 a2 a3 (List.replicate (a0_0 : Int).toNat 0) 0 a0_0 a0_1 l0_2) else (none)) else (none)
def spec_l7All.T11 : Bool × List (List Nat × List Nat) := (true, [([], []), ([], []), ([], []), ([], []), ([2, 3], [2, 3]), ([4], [4]), ([], []), ([], []), ([1, 5, 6, 7], [1, 5, 6, 7]), ([8], [8]), ([0, 9, 8], [0, 9]), ([10, 10, 0, 1, 2, 3, 4, 5, 6, 7, 8, 9, 10], [0, 2, 10])])
def spec_l7All.B11 : List Nat := [0, 0, 0, 0, 12, 28, 0, 0, 254, 510, 1023, 2047]
theorem spec_l7All.tab11 : rtab .any (opsOf Try.f72 11) = spec_l7All.T11 := by kernel_rfl
theorem spec_l7All.bits11 : waitsOk spec_l7All.T11.2 spec_l7All.B11 = true := by kernel_rfl
set_option maxHeartbeats 8000000 in
set_option maxRecDepth 100000 in
theorem spec_l7All.calls (k : Nat) (a0_0 : Int) (a0_1 : Int) (A0_2 : Option Addr) (c0_2 : Nat) (l0_2 : List (S32)) (a1 : Int) (a2 : Int) (a3 : Int) (r : List (List Int)) (w : World) (hr0_2 : Kd.C k32 w A0_2 l0_2.length l0_2) (hc0_2 : l0_2.length ≤ c0_2) (h : spec_l7All.f k a0_0 a0_1 l0_2 a1 a2 a3 = some r) :
  Calls Try.prog 72 #[.agg #[.int .i64 a0_0, .int .i64 a0_1, .slice A0_2 l0_2.length c0_2], .int .i64 a1, .int .i64 a2, .int .i64 a3] w fun e w' => ∃ v0_ : Value, e = .returned (v0_) ∧ Kd.N (Kd.slice 3 (Kd.int .i64)) 28 w' w.heap.size (fun k_ => (w.heap.size ≤ k_)) v0_ r ∧ Below w.heap.size w w' := by
 have hu25 := Try.underlying25
 have HR0_2 := Aside0.mk hr0_2
 have HC0_2 := Aside0.mk hc0_2
 clear hr0_2 hc0_2
 have HB := Aside0.mk (Below.refl w.heap.size w)
 have H : (if 0 ≤ a0_0 then (if (a0_0 : Int).toNat ≤ 35184372088832 then (spec_l7All.l0 k a1 a2 a3 (List.replicate (a0_0 : Int).toNat 0) 0 a0_0 a0_1 l0_2) else (none)) else (none)) = some r := h
 clear h
 by_cases c5 : 0 ≤ a0_0
 ·
  rw [if_pos c5] at H; have c5b0 := eq_true c5; have c5b1 := de c5; clear c5; by_cases c6 : (a0_0 : Int).toNat ≤ 35184372088832
  ·
   rw [if_pos c6] at H; have c6b0 := eq_true c6; have c6b1 := de c6; clear c6; obtain ⟨y102, hy102⟩ : ∃ y_ : List Int, y_ = (List.replicate (a0_0 : Int).toNat 0) := ⟨_, rfl⟩
   replace H : (spec_l7All.l0 k a1 a2 a3 y102 0 a0_0 a0_1 l0_2) = some r := by first | (rw [hy102]; with_reducible exact H) | (have H2_ := (Option.bind_some _ _).symm.trans H; rw [hy102]; with_reducible exact H2_) | (have H2_ := (Option.bind_some _ _).symm.trans H; with_reducible exact H2_) | with_reducible exact H | (rw [hy102]; exact H) | exact H
   have Ny102 := Aside0.mk hy102; clear hy102; have H' := Aside0.mk H; clear H; go_enter Try.func72, Try.ntmps72; go_wp2_with (first | ((with_reducible refine gate_dst (N := 4) rfl ?_); refine be (cs := #[.int .i64 a0_0, .int .i64 a0_1, .slice A0_2 l0_2.length c0_2]) (t := 25) ?_; intro gb101 hg w7 hbox hb; have BK101 := Aside0.mk (hbox); have GW101 := gz w hg (uB0 HB); have GE101 := gz w hg (uB0 HB); replace HB := Aside0.mk (below_step (uB0 HB) hb); clear hb hbox hg; obtain ⟨hcz8_0, hcz8_1, hcz8_2, hfz8_0, hfz8_1, hfz8_2⟩ := bc3 BK101) | ((with_reducible refine gate_dst (N := 15) rfl ?_); refine Kd.R_make (Kd.int .i64) _ 3 rfl (N := 15) rfl 28 _ _ rfl a0_0 rfl rfl Try.underlying28 (.int .i64 0) 8 info3 rfl (by decide) (by omega) 0 (ok := fun _ => True) (okp := fun _ => True) rfl (fun _ hk => hk) trivial (ua) (Nat.le_trans (Nat.mul_le_mul_right _ (ua : a0_0.toNat ≤ 35184372088832)) (by omega)) (Below.refl _ _) (Nat.le_refl _) ?_; intro v103 w9 ho10 hb hg_ hnew_; clear hg_ hnew_; (rw [← Ny102.out] at ho10); have HO104 := Aside0.mk (Kd.R_lower (Kd.R_newM (M := fun k_ => (w.heap.size ≤ k_)) ho10 (below_size (uB1 HB GE101.out)) (fun k_ h_ => h_)) (below_size (uB1 HB GE101.out))); replace BK101 := bb BK101 hb; replace HB := Aside0.mk (below_step (uB1 HB GE101.out) hb); clear hb ho10)); go_loopg [10] k (fun kq v10 w' => ∃ (x9_1 : List Int) (x10_1 : Int), v10 = .int .i64 x10_1 ∧ Aside0 (spec_l7All.l0 kq a1 a2 a3 x9_1 x10_1 a0_0 a0_1 l0_2 = some r) ∧ Aside0 (kq ≤ k) ∧ Aside0 (Kd.R (Kd.int .i64) 3 w' w.heap.size (fun k_ => (w.heap.size ≤ k_)) v103 x9_1) ∧ Aside0 (w'.heap[gb101]? = some (.cells #[.int .i64 a0_0, .int .i64 a0_1, (.slice A0_2 l0_2.length c0_2)] 25 (0, 0))) ∧ Aside0 (Below w.heap.size w w'))
   case atStart => exact ⟨(y102), (0), ue, H', ⟨Nat.le_refl _⟩, ⟨by (with_reducible repeat (first | apply Kd.R_alloc | apply Kd.R_drewN | apply Kd.R_drew)); exact Kd.R_mono HO104.out (fun _ hk => hk.1)⟩, ⟨ub BK101⟩, ⟨uB1 HB GE101.out⟩⟩
   case round =>
    clear H'
    clear c5b0 c5b1 c6b0 c6b1 hcz8_0 hcz8_1 hcz8_2 hfz8_0 hfz8_1 hfz8_2
    obtain ⟨x9_1, x10_1, rfl, HA, HK1, HO_9, BK101, HB⟩ := hrel
    cases gk with
    | zero => exact absurd HA.out (by simp [spec_l7All.l0])
    | succ k1 =>
     have H := HA.out; clear HA; simp only [spec_l7All.l0] at H; by_cases c11 : x10_1 < a0_0
     ·
      rw [if_pos c11] at H; have c11b0 := dl c11; clear c11; by_cases c12 : 0 ≤ x10_1
      ·
       rw [if_pos c12] at H; have c12b0 := de c12; clear c12; by_cases c13 : x10_1 < (x9_1.length : Int)
       ·
        rw [if_pos c13] at H; have c13b0 := dl c13; clear c13; obtain ⟨y105, hy105⟩ : ∃ y_ : List Int, y_ = (x9_1.set (x10_1 : Int).toNat 99999) := ⟨_, rfl⟩
        replace H : (spec_l7All.l0 k1 a1 a2 a3 y105 (wrap64 (x10_1 + 1)) a0_0 a0_1 l0_2) = some r := by first | (rw [hy105]; with_reducible exact H) | (have H2_ := (Option.bind_some _ _).symm.trans H; rw [hy105]; with_reducible exact H2_) | (have H2_ := (Option.bind_some _ _).symm.trans H; with_reducible exact H2_) | with_reducible exact H | (rw [hy105]; exact H) | exact H
        have Ny105 := Aside0.mk hy105; clear hy105; have H' := Aside0.mk H; clear H; obtain ⟨hcz15_0, hcz15_1, hcz15_2, hfz15_0, hfz15_1, hfz15_2⟩ := bc3 BK101; have p14 : 0 ≤ (x10_1 : Int) := ua; have q14 : (x10_1 : Int) < ((x9_1.length : Int) : Int) := ua; obtain ⟨go14, co14, eo14, gb14, gl14, cl14, HG14⟩ := Kd.R_form HO_9.out (by omega); (cases eo14); have GB14 := Aside0.mk gb14; have GG14 := Aside0.mk HG14; clear gb14 gl14 HG14; obtain ⟨hx14_0, hf14_0⟩ := Kd.R_celln 0 HO_9.out (x10_1 : Int) p14 q14; replace p14 := eq_true p14; replace q14 := eq_true q14; have HP16 := Kd.R_putg HO_9.out (x10_1 : Int) 99999; go_wp2_with (((with_reducible refine gate_store (t := 3) (p := 24) rfl ?_); refine store_event (t := 3) (p := 24) (v := ?vo_w17) (w1 := (wr.setCell ⟨go14, (x10_1 : Int).toNat, none⟩ (.int .i64 99999))) ?hg ?ho ?hn ?hr ?_; (case ho => rfl); (case hg => rfl); (case hn => rfl); (case hr => first | (go_simp; done) | (go_simp; rfl)); intro w17 hw; have hg : wr.grownBy w17 (some go14) := (by rw [hw]; exact HP16.2); have hp_ : Kd.R (Kd.int .i64) 3 w17 w.heap.size (fun k_ => (w.heap.size ≤ k_)) (.slice (some ⟨go14, 0, none⟩) x9_1.length co14) y105 := (by rw [hw, Ny105.out]; exact HP16.1); clear HP16; replace BK101 := bg BK101 hg (Kd.R_ne HO_9.out BK101.out (by decide)); replace HO_9 := Aside0.mk (hp_); replace HB := Aside0.mk ((by rw [hw]; exact below_set (HB.out) GB14.out : Below w.heap.size w w17)); clear hg hw hp_)); go_roundg k1
        case measure => have := HK1.out; omega
        case rel => exact ⟨(y105), (wrap64 (x10_1 + 1)), ue, H', ⟨by have := HK1.out; omega⟩, ⟨ur HO_9⟩, ⟨ub BK101⟩, ⟨uB1 HB GE101.out⟩⟩
       ·
        rw [if_neg c13] at H; exact absurd H (by simp)
      ·
       rw [if_neg c12] at H; exact absurd H (by simp)
     ·
      rw [if_neg c11] at H; have c11b0 := DL c11; clear c11; by_cases c18 : 0 ≤ a1
      ·
       rw [if_pos c18] at H; have c18b0 := de c18; clear c18; by_cases c19 : a1 < (x9_1.length : Int)
       ·
        rw [if_pos c19] at H; have c19b0 := dl c19; clear c19; obtain ⟨y106, hy106⟩ : ∃ y_ : List Int, y_ = (x9_1.set (a1 : Int).toNat a2) := ⟨_, rfl⟩
        replace H : (spec_l7All.l1 k1 a1 a2 a3 (([y106] : List (List Int))) 0 a0_0 a0_1 l0_2) = some r := by first | (rw [hy106]; with_reducible exact H) | (have H2_ := (Option.bind_some _ _).symm.trans H; rw [hy106]; with_reducible exact H2_) | (have H2_ := (Option.bind_some _ _).symm.trans H; with_reducible exact H2_) | with_reducible exact H | (rw [hy106]; exact H) | exact H
        have Ny106 := Aside0.mk hy106; clear hy106; obtain ⟨y107, hy107⟩ : ∃ y_ : List (List Int), y_ = (([y106] : List (List Int))) := ⟨_, rfl⟩
        replace H : (spec_l7All.l1 k1 a1 a2 a3 y107 0 a0_0 a0_1 l0_2) = some r := by first | (rw [hy107]; with_reducible exact H) | (have H2_ := (Option.bind_some _ _).symm.trans H; rw [hy107]; with_reducible exact H2_) | (have H2_ := (Option.bind_some _ _).symm.trans H; with_reducible exact H2_) | with_reducible exact H | (rw [hy107]; exact H) | exact H
        have Ny107 := Aside0.mk hy107; clear hy107; have H' := Aside0.mk H; clear H; obtain ⟨hcz21_0, hcz21_1, hcz21_2, hfz21_0, hfz21_1, hfz21_2⟩ := bc3 BK101; have p20 : 0 ≤ (a1 : Int) := ua; have q20 : (a1 : Int) < ((x9_1.length : Int) : Int) := ua; obtain ⟨go20, co20, eo20, gb20, gl20, cl20, HG20⟩ := Kd.R_form HO_9.out (by omega); (cases eo20); have GB20 := Aside0.mk gb20; have GG20 := Aside0.mk HG20; clear gb20 gl20 HG20; obtain ⟨hx20_0, hf20_0⟩ := Kd.R_celln 0 HO_9.out (a1 : Int) p20 q20; replace p20 := eq_true p20; replace q20 := eq_true q20; have HP22 := Kd.R_putg HO_9.out (a1 : Int) a2; go_wp2_with (first | ((with_reducible refine gate_store (t := 3) (p := 28) rfl ?_); refine store_event (t := 3) (p := 28) (v := ?vo_w23) (w1 := (wr.setCell ⟨go20, (a1 : Int).toNat, none⟩ (.int .i64 a2))) ?hg ?ho ?hn ?hr ?_; (case ho => rfl); (case hg => rfl); (case hn => rfl); (case hr => first | (go_simp; done) | (go_simp; rfl)); intro w23 hw; have hg : wr.grownBy w23 (some go20) := (by rw [hw]; exact HP22.2); have hp_ : Kd.R (Kd.int .i64) 3 w23 w.heap.size (fun k_ => (w.heap.size ≤ k_)) (.slice (some ⟨go20, 0, none⟩) x9_1.length co20) y106 := (by rw [hw, Ny106.out]; exact HP22.1); clear HP22; replace BK101 := bg BK101 hg (Kd.R_ne HO_9.out BK101.out (by decide)); replace HO_9 := Aside0.mk (hp_); replace HB := Aside0.mk ((by rw [hw]; exact below_set (HB.out) GB20.out : Below w.heap.size w w23)); clear hg hw hp_) | ((with_reducible refine gate_dst (N := 30) rfl ?_); refine Kd.N_lit (Kd.slice 3 (Kd.int .i64)) _ 28 ?hg (N' := 30) ?hd (xs := ([y106] : List (List Int))) (inner := [.slice (some ⟨go20, 0, none⟩) x9_1.length co20]) (ok := (fun k_ => (w.heap.size ≤ k_) ∧ k_ ≠ gb101)) (okp := (fun k_ => (w.heap.size ≤ k_) ∧ k_ ≠ gb101)) ?hr ?hp (fun _ hk => hk) ((show ∀ k_, w23.heap.size ≤ k_ → (fun k_ => (w.heap.size ≤ k_) ∧ k_ ≠ gb101) k_ from fun k_ hk => ⟨(Nat.le_trans (below_size (uB1 HB GE101.out)) hk), Kd.freshB (g := gb101) (o := .cells #[.int .i64 a0_0, .int .i64 a0_1, .slice A0_2 l0_2.length c0_2] 25 (0, 0)) (ub BK101) k_ hk⟩) _ (Nat.le_refl _)) (Below.refl _ _) (Nat.le_refl _) (by simp) ?_; (case hd => rfl); (case hg => rfl); (case hr => first | (go_simp; done) | (go_simp; rfl)); (case hp => exact (Reps.one (show Kd.FK (Kd.slice 3 (Kd.int .i64)) _ _ y106 [.slice (some ⟨go20, 0, none⟩) x9_1.length co20] from (kF (Kd.R_mono (ok' := (fun k_ => (w.heap.size ≤ k_) ∧ k_ ≠ gb101)) (Kd.R_types (HO_9.out) BK101.out (by decide)) (fun k_ hk => ⟨hk.1, hk.2⟩)))) (Reps.none _ _))); intro v108 w24 ho25 hb hg_ hnew_; clear hg_ hnew_; (rw [← Ny107.out] at ho25); have HO109 := Aside0.mk (Kd.N_lower ho25 (below_size (uB1 HB GE101.out))); replace BK101 := bb BK101 hb; replace HB := Aside0.mk (below_step (uB1 HB GE101.out) hb); clear HO_9; clear hb ho25)); go_loopg [11, 12] k1 (fun kq v11 v12 w' => ∃ (x11_2 : List (List Int)) (x12_2 : Int), v12 = .int .i64 x12_2 ∧ Aside0 (spec_l7All.l1 kq a1 a2 a3 x11_2 x12_2 a0_0 a0_1 l0_2 = some r) ∧ Aside0 (kq ≤ k1) ∧ Aside0 (Kd.N (Kd.slice 3 (Kd.int .i64)) 28 w' w.heap.size (fun k_ => (w.heap.size ≤ k_) ∧ k_ ≠ gb101) v11 x11_2) ∧ Aside0 (w'.heap[gb101]? = some (.cells #[.int .i64 a0_0, .int .i64 a0_1, (.slice A0_2 l0_2.length c0_2)] 25 (0, 0))) ∧ Aside0 (Below w.heap.size w w'))
        case atStart => exact ⟨(y107), (0), ue, H', ⟨Nat.le_refl _⟩, ⟨by (with_reducible repeat (first | apply Kd.N_alloc | apply Kd.N_drewN | apply Kd.N_drew)); exact HO109.out⟩, ⟨ub BK101⟩, ⟨uB1 HB GE101.out⟩⟩
        case round =>
         clear H'
         clear c11b0 c18b0 c19b0 p20 q20 hcz21_0 hcz21_1 hcz21_2 hfz21_0 hfz21_1 hfz21_2 hx20_0
         obtain ⟨x11_2, x12_2, rfl, HA, HK2, HO_11, BK101, HB⟩ := hrel
         cases gk with
         | zero => exact absurd HA.out (by simp [spec_l7All.l1])
         | succ k2 =>
          have H := HA.out; clear HA; simp only [spec_l7All.l1] at H; by_cases c26 : x12_2 < a3
          ·
           rw [if_pos c26] at H; have c26b0 := dl c26; clear c26; by_cases c27 : 0 ≤ x12_2
           ·
            rw [if_pos c27] at H; have c27b0 := de c27; clear c27; by_cases c28 : x12_2 < (x11_2.length : Int)
            ·
             rw [if_pos c28] at H; have c28b0 := dl c28; clear c28; replace H := Option.bind_eq_some_iff.mp H; obtain ⟨t111, A290, H⟩ := H; replace H : (if x11_2.length < 5864062014805 then (spec_l7All.l1 k2 a1 a2 a3 (x11_2 ++ [t111]) (wrap64 (x12_2 + 1)) a0_0 a0_1 l0_2) else (none)) = some r := H; have A29 := Aside0.mk A290; clear A290; by_cases c30 : x11_2.length < 5864062014805
             ·
              rw [if_pos c30] at H; have LMc30 := Aside0.mk c30; clear c30; obtain ⟨y114, hy114⟩ : ∃ y_ : List (List Int), y_ = (x11_2 ++ [t111]) := ⟨_, rfl⟩
              replace H : (spec_l7All.l1 k2 a1 a2 a3 y114 (wrap64 (x12_2 + 1)) a0_0 a0_1 l0_2) = some r := by first | (rw [hy114]; with_reducible exact H) | (have H2_ := (Option.bind_some _ _).symm.trans H; rw [hy114]; with_reducible exact H2_) | (have H2_ := (Option.bind_some _ _).symm.trans H; with_reducible exact H2_) | with_reducible exact H | (rw [hy114]; exact H) | exact H
              have Ny114 := Aside0.mk hy114; clear hy114; have H' := Aside0.mk H; clear H; try go_wp2
              replace HO_11 := Aside0.mk (Kd.N_drew HO_11.out); replace BK101 := Aside0.mk (blk_drew BK101.out); replace HB := Aside0.mk (below_drew1 HB.out); obtain ⟨Ao32, co32, eo32⟩ := Kd.N_slice HO_11.out; (subst eo32); have p110 : 0 ≤ (x12_2 : Int) := ua; have q110 : x12_2 < (x11_2.length : Int) := ua; obtain ⟨ad110, A110_0, c110_0, e110, hx110_0, hl110_0, hi110_0⟩ := at_L3 (Kd.N_reads' HO_11.out).2.2 x12_2 p110 q110
              cases e110
              obtain ⟨ce110, hce110, hMe110, hcc110⟩ := Kd.N_get HO_11.out [] x12_2 p110 (by first | exact q110 | exact ua | (have e_ := (Kd.N_reads' HO_11.out).1; omega)); obtain ⟨ua110_0, uc110_0, rfl, ul110_0, ge110_0⟩ := Kd.FK_slice_open hMe110; have hv110_0 := hcc110 0 _ rfl; rw [Nat.add_zero, show ((Kd.slice 3 (Kd.int .i64))).sz = 1 from rfl, Nat.mul_one] at hv110_0; replace hv110_0 := Option.some.inj (hv110_0.symm.trans hx110_0); injection hv110_0 with hva_ hvn_ hvc_
              rw [hva_] at ge110_0; rw [hvc_] at ul110_0; have HL110_0 := Aside0.mk (show Kd.V (Kd.int .i64) 3 _ w.heap.size _ _ (rd_L3 x11_2 x12_2) from Kd.V_mk ul110_0 ge110_0); clear hva_ hvn_ hvc_ ge110_0 ul110_0; clear hcc110 hce110; have HR110_0 := Aside0.mk hi110_0; have HC110_0 := Aside0.mk hl110_0; clear hi110_0 hl110_0; replace p110 := eq_true p110; replace q110 := eq_true q110; refine start_ (n := 12) (S := fun w' => w'.cell? ⟨gb101, 0, none⟩ = some (.int .i64 a0_0) ∧ w'.cell? ⟨gb101, 1, none⟩ = some (.int .i64 a0_1) ∧ w'.cell? ⟨gb101, 2, none⟩ = some (.slice A0_2 l0_2.length c0_2) ∧ w'.cell? (ad110.add (x12_2).toNat) = some (.slice A110_0 (rd_L3 x11_2 x12_2).length c110_0)) (ds := [9, 10]) (zt 12 0) (by kernel_rfl) rfl (by kernel_rfl) (b3x BK101 hx110_0) (fun hHeld => ?_); refine with_tabW spec_l7All.tab11 spec_l7All.bits11 (fun HT_ HW_ => ?_); generalize wr.drew = w31 at HO_11 BK101 HB HL110_0 HR110_0 hx110_0 hHeld ⊢; refine qz HT_ 0 ?_; refine qz HT_ 2 ?_; refine qz HT_ 3 ?_; refine qz HT_ 4 ?_; refine qz HT_ 6 ?_; refine qz HT_ 7 ?_; refine qt HT_ HW_ hHeld 1 ?_; refine qt HT_ HW_ hHeld 5 ?_; refine qo HT_ 8 (fun K hK => ?_); refine goes_ Try.func94 (by kernel_rfl) rfl #[.agg #[.int .i64 a0_0, .int .i64 a0_1, .slice A0_2 l0_2.length c0_2], .slice A110_0 (rd_L3 x11_2 x12_2).length c110_0, .int .i64 a1, .int .i64 a2] (by rfl) rfl rfl ul ?_; with_reducible refine (spec_l7Next.calls k2 a0_0 a0_1 _ _ l0_2 _ _ (rd_L3 x11_2 x12_2) a1 a2 t111 _ ?side1 ?side2 ?side3 ?side4 A29.out).mono ?_
              (case side1 => exact uC HR0_2 HB); (case side2 => exact HC0_2.out); (case side3 => repeat (exact (by repeat ((with_reducible exact HR110_0.out))))); (case side4 => exact HC110_0.out); rintro e w33 ⟨v112, rfl, ho0, hb⟩; have HS3_ := (hb.cell (World.block_lt_of_cell? _ _ (hHeld.2.2.2))).trans (hHeld.2.2.2); refine ⟨_, rfl, ?_⟩; replace HO_11 := Aside0.mk (Kd.N_elder' (by (with_reducible repeat (first | apply Kd.N_alloc | apply Kd.N_drewN | apply Kd.N_drew)); exact HO_11.out) (Kd.R_base ho0) hb); replace HL110_0 := Aside0.mk (Kd.V_elder' (by (with_reducible repeat (first | apply Kd.V_alloc | apply Kd.V_drewN | apply Kd.V_drew)); exact HL110_0.out) (Kd.R_base ho0) hb); have HO113 := Aside0.mk (Kd.R_lower (Kd.R_newM (M := fun k_ => (w.heap.size ≤ k_)) ho0 (below_size (uB1 HB GE101.out)) (fun k_ h_ => h_)) (below_size (uB1 HB GE101.out))); replace BK101 := bb BK101 hb; replace HR110_0 := Aside0.mk (Kd.C_below (by repeat ((with_reducible exact HR110_0.out))) hb); replace HB := Aside0.mk (below_step (uB1 HB GE101.out) hb); (try clear hb); (try clear ho0); obtain ⟨Ao35, co35, eo35⟩ := Kd.R_slice HO113.out; (subst eo35); refine hK.out _ _ (b3x BK101 HS3_) (fun hHeld => ?_); clear hK K; refine nz ?_
              refine last_ (i := 9) (N := some 45) (zt 12 1023) rfl rfl (one_of HT_.out (by kernel_rfl)) (by decide) (fun K hK => ?_); refine value_ (w1 := ?_) (v := ?_) (by rfl) rfl ?_ ?_; rotate_left 2
              ·
               go_simp
               constructor
               ·
                rfl
               ·
                rfl
              refine hK.out _ _ ?_; clear hK K; refine nz ?_
              refine last_ (i := 10) (N := some 46) (zt 12 2047) rfl rfl (one_of HT_.out (by kernel_rfl)) (by decide) (fun K hK => ?_); refine Kd.N_append_step (Kd.slice 3 (Kd.int .i64)) (w0 := w) w.heap.size (by rfl) (.tmp 36) (.tmp 45) 37 28 (.slice none 0 0) 24 rfl Try.underlying37 info28 rfl (by decide) (by omega) (.slice (some ad110) x11_2.length co32) x11_2 t111 [.slice Ao35 t111.length co35] (fun k_ => (w.heap.size ≤ k_) ∧ k_ ≠ gb101) (fun k_ => ((fun k_ => (w.heap.size ≤ k_) ∧ k_ ≠ gb101)) k_ ∧ some k_ ≠ (.slice (some ad110) x11_2.length co32 : Value).ownBlock) rfl rfl ?aP (fun _ hk => hk) ?aF ?aO ?aB ?aS ?aL ?_; (case aP => exact (kF (Kd.R_mono (ok' := (fun k_ => ((fun k_ => (w.heap.size ≤ k_) ∧ k_ ≠ gb101)) k_ ∧ some k_ ≠ (.slice (some ad110) x11_2.length co32 : Value).ownBlock)) (Kd.R_types (Kd.R_apart' (HO113.out) (Kd.N_typed HO_11.out) (by decide)) BK101.out (by decide)) (fun k_ hk => ⟨⟨hk.1.1.1, hk.2⟩, hk.1.2⟩)))); (case aB => exact (uB1 HB GE101.out)); (case aF => exact (fun k_ hk => ⟨(Nat.le_trans (below_size (uB1 HB GE101.out)) hk), Kd.freshB (g := gb101) (o := .cells #[.int .i64 a0_0, .int .i64 a0_1, .slice A0_2 l0_2.length c0_2] 25 (0, 0)) (ub BK101) k_ hk⟩)); (case aO => exact (by (with_reducible repeat (first | apply Kd.N_alloc | apply Kd.N_drewN | apply Kd.N_drew)); exact Kd.N_mono HO_11.out (fun _ hk => ⟨hk.1.1, hk.1.2⟩))); (case aS => exact (below_size (uB1 HB GE101.out))); (case aL => have := LMc30.out; omega); intro v115 w34 ho hb hg hat; rw [← Ny114.out] at ho; replace BK101 := Aside0.mk (blk_grown (g := gb101) (o := .cells #[.int .i64 a0_0, .int .i64 a0_1, .slice A0_2 l0_2.length c0_2] 25 (0, 0)) (ub BK101) hg (Kd.N_ne HO_11.out BK101.out (by decide))); replace HL110_0 := Aside0.mk (Kd.V_afterv (ok := (fun k_ => (w.heap.size ≤ k_) ∧ some k_ ≠ (.slice Ao35 t111.length co35 : Value).ownBlock ∧ k_ ≠ gb101)) (by (with_reducible repeat (first | apply Kd.V_alloc | apply Kd.V_drewN | apply Kd.V_drew)); exact Kd.V_mono HL110_0.out (fun _ hk => ⟨⟨hk.1.1.1, ⟨hk.2, hk.1.1.2⟩⟩, hk.1.2⟩)) hg hat); replace HB := Aside0.mk (hb); have HO116 := Aside0.mk (ho); clear HO_11; clear HO113; clear ho hb hg hat; refine hK.out _ _ ?_; clear hK K; refine nz ?_
              refine qz HT_ 11 ?_; refine done_ (done_of HT_.out (by kernel_rfl)) ?_; try go_wp2
              go_roundg k2
              case measure => have := HK1.out; have := HK2.out; omega
              case rel => exact ⟨(y114), (wrap64 (x12_2 + 1)), ue, H', ⟨by have := HK1.out; have := HK2.out; omega⟩, ⟨by (with_reducible repeat (first | apply Kd.N_alloc | apply Kd.N_drewN | apply Kd.N_drew)); exact HO116.out⟩, ⟨ub BK101⟩, ⟨uB1 HB GE101.out⟩⟩
             ·
              rw [if_neg c30] at H; exact absurd H (by simp)
            ·
             rw [if_neg c28] at H; exact absurd H (by simp)
           ·
            rw [if_neg c27] at H; exact absurd H (by simp)
          ·
           rw [if_neg c26] at H; have c26b0 := DL c26; clear c26; obtain rfl := Option.some.inj H; go_wp2; go_ret; exact ⟨_, by first | rfl | (simp [errW_none, errW_some] <;> rfl) | (simp [*, errW_none, errW_some] <;> rfl), by (with_reducible repeat (first | apply Kd.N_alloc | apply Kd.N_drewN | apply Kd.N_drew)); exact Kd.N_mono HO_11.out (fun _ hk => hk.1), uB1 HB GE101.out⟩
       ·
        rw [if_neg c19] at H; exact absurd H (by simp)
      ·
       rw [if_neg c18] at H; exact absurd H (by simp)
  ·
   rw [if_neg c6] at H; exact absurd H (by simp)
 ·
  rw [if_neg c5] at H; exact absurd H (by simp)

end Go.Proofs.Ytcklifkbodmoaaa.P
