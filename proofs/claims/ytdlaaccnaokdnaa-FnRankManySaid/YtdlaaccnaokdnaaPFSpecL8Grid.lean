-- written for this claim by a program (wip/gen/myprint.py over the print tool). Not trusted: Lean checks it.
import Derived.Test.YtdlaaccnaokdnaaPx0
import Derived.Test.YtdlaaccnaokdnaaHUp
namespace Go.Proofs.Ytdlaaccnaokdnaa.P
open Go.RowKit Go.Proofs.YtdlaaccnaokdnaaV.PrintWords Go.Proofs.YtdlaaccnaokdnaaV.PrintLast
set_option linter.unusedVariables false
set_option linter.unusedSimpArgs false

/-! ### spec_l8Grid: function 102 -/
mutual
def spec_l8Grid.l0 : Nat → List (List Int) → Int → Int → List (S61) → Option ((List (List Int)))
 | 0, _, _, _, _ => none
 | k + 1, x3, x4, x102000, x102001 => if x4 < x102000 then (if 0 ≤ x102000 then (if (x102000 : Int).toNat ≤ 35184372088832 then (spec_l8Grid.l1 k x3 x4 (List.replicate (x102000 : Int).toNat 0) 0 x102000 x102001) else (none)) else (none)) else (spec_l8Grid.l2 k x3 0 x102000 x102001)
def spec_l8Grid.l1 : Nat → List (List Int) → Int → List Int → Int → Int → List (S61) → Option ((List (List Int)))
 | 0, _, _, _, _, _, _ => none
 | k + 1, x3, x4, x5, x6, x102000, x102001 => if x6 < x102000 then (if 0 ≤ x6 then (if x6 < (x5.length : Int) then (spec_l8Grid.l1 k x3 x4 (x5.set (x6 : Int).toNat 99999) (wrap64 (x6 + 1)) x102000 x102001) else (none)) else (none)) else (if x3.length < 5864062014805 then (spec_l8Grid.l0 k (x3 ++ [x5]) (wrap64 (x4 + 1)) x102000 x102001) else (none))
def spec_l8Grid.l2 : Nat → List (List Int) → Int → Int → List (S61) → Option ((List (List Int)))
 | 0, _, _, _, _ => none
 | k + 1, x3, x7, x102000, x102001 => if x7 < (x102001.length : Int) then (if 0 ≤ x7 then (if 0 ≤ ((rd_T61 x102001 x7).f0) then (if ((rd_T61 x102001 x7).f0) < (x3.length : Int) then (if 0 ≤ ((rd_T61 x102001 x7).f1) then (if ((rd_T61 x102001 x7).f1) < ((rd_L5 x3 ((rd_T61 x102001 x7).f0)).length : Int) then (if ((rd_T61 x102001 x7).f2) < (rd (rd_L5 x3 ((rd_T61 x102001 x7).f0)) ((rd_T61 x102001 x7).f1)) then (spec_l8Grid.l2 k (x3.set (((rd_T61 x102001 x7).f0) : Int).toNat ((rd_L5 x3 ((rd_T61 x102001 x7).f0)).set (((rd_T61 x102001 x7).f1) : Int).toNat ((rd_T61 x102001 x7).f2))) (wrap64 (x7 + 1)) x102000 x102001) else (spec_l8Grid.l2 k x3 (wrap64 (x7 + 1)) x102000 x102001)) else (none)) else (none)) else (none)) else (none)) else (none)) else (some x3)
end
def spec_l8Grid.f (k : Nat) (a0_0 : Int) (l0_1 : List (S61)) : Option ((List (List Int))) := spec_l8Grid.l0 k (([] : List (List Int))) 0 a0_0 l0_1
def spec_l8Grid.T15 : Bool × List (List Nat × List Nat) := (true, [([], []), ([0], [0]), ([], []), ([], []), ([3], [3]), ([2, 4], [2, 4]), ([5], [5]), ([], []), ([7], [7]), ([6, 8], [6, 8]), ([9], [9]), ([1, 10], [1, 10])])
def spec_l8Grid.B15 : List Nat := [0, 1, 0, 0, 8, 28, 60, 0, 128, 508, 1020, 2047]
theorem spec_l8Grid.tab15 : rtab .any (opsOf Try.f102 15) = spec_l8Grid.T15 := by kernel_rfl
theorem spec_l8Grid.bits15 : waitsOk spec_l8Grid.T15.2 spec_l8Grid.B15 = true := by kernel_rfl
def spec_l8Grid.T16 : Bool × List (List Nat × List Nat) := (true, [([], []), ([], []), ([1], [1]), ([0, 2], [0, 2]), ([3], [3]), ([], []), ([5], [5]), ([], []), ([7], [7]), ([4, 6, 0, 1, 2, 3, 4, 5, 6, 7, 8], [4, 6]), ([9, 8, 0, 1, 2, 3, 4, 5, 6, 7, 8], [8, 9])])
def spec_l8Grid.B16 : List Nat := [0, 0, 2, 7, 15, 0, 32, 0, 128, 511, 1023]
theorem spec_l8Grid.tab16 : rtab .any (opsOf Try.f102 16) = spec_l8Grid.T16 := by kernel_rfl
theorem spec_l8Grid.bits16 : waitsOk spec_l8Grid.T16.2 spec_l8Grid.B16 = true := by kernel_rfl
set_option maxHeartbeats 8000000 in
set_option maxRecDepth 100000 in
theorem spec_l8Grid.calls (k : Nat) (a0_0 : Int) (A0_1 : Option Addr) (c0_1 : Nat) (l0_1 : List (S61)) (r : List (List Int)) (w : World) (hr0_1 : Kd.C k61 w A0_1 l0_1.length l0_1) (hc0_1 : l0_1.length ≤ c0_1) (h : spec_l8Grid.f k a0_0 l0_1 = some r) :
  Calls Try.prog 102 #[.agg #[.int .i64 a0_0, .slice A0_1 l0_1.length c0_1]] w fun e w' => ∃ v0_ : Value, e = .returned (v0_) ∧ Kd.S (Kd.slice 3 (Kd.int .i64)) 25 w' w.heap.size (fun _ => True) v0_ r ∧ Below w.heap.size w w' := by
 have hu35 := Try.underlying35
 have hu61 := Try.underlying61
 have HR0_1 := Aside0.mk hr0_1
 have HC0_1 := Aside0.mk hc0_1
 clear hr0_1 hc0_1
 have HB := Aside0.mk (Below.refl w.heap.size w)
 have H : (spec_l8Grid.l0 k (([] : List (List Int))) 0 a0_0 l0_1) = some r := h
 clear h
 obtain ⟨y102, hy102⟩ : ∃ y_ : List (List Int), y_ = (([] : List (List Int))) := ⟨_, rfl⟩
 replace H : (spec_l8Grid.l0 k y102 0 a0_0 l0_1) = some r := by first | (rw [hy102]; with_reducible exact H) | (have H2_ := (Option.bind_some _ _).symm.trans H; rw [hy102]; with_reducible exact H2_) | (have H2_ := (Option.bind_some _ _).symm.trans H; with_reducible exact H2_) | with_reducible exact H | (rw [hy102]; exact H) | exact H
 have Ny102 := Aside0.mk hy102
 clear hy102
 have H' := Aside0.mk H
 clear H
 go_enter Try.func102, Try.ntmps102
 go_wp2_with (first | ((with_reducible refine gate_dst (N := 1) rfl ?_); refine be (cs := #[.int .i64 a0_0, .slice A0_1 l0_1.length c0_1]) (t := 35) ?_; intro gb101 hg w2 hbox hb; have BK101 := Aside0.mk (hbox); have GW101 := gz w hg (uB0 HB); have GE101 := gz w hg (uB0 HB); replace HB := Aside0.mk (below_step (uB0 HB) hb); clear hb hbox hg) | ((with_reducible refine gate_dst (N := 9) rfl ?_); refine Kd.S_lit (Kd.slice 3 (Kd.int .i64)) _ 25 ?hg (N := 9) ?hd (xs := ([] : List (List Int))) (inner := []) (ok := fun _ => True) (okp := fun _ => True) ?hr ?hp (fun _ hk => hk) trivial (Below.refl _ _) (Nat.le_refl _) (by simp) ?_; (case hd => rfl); (case hg => rfl); (case hr => first | (go_simp; done) | (go_simp; rfl)); (case hp => exact (Reps.none _ _)); intro v103 w3 ho4 hb hg_ hnew_; clear hg_ hnew_; (first | rw [← Ny102.out] at ho4 | (simp only [Int.reduceToNat] at ho4; rw [← Ny102.out] at ho4)); have HO104 := Aside0.mk (Kd.S_lower ho4 (below_size (uB1 HB GE101.out))); replace BK101 := bb BK101 hb; replace HB := Aside0.mk (below_step (uB1 HB GE101.out) hb); clear hb ho4))
 go_loopg [3, 4] k (fun kq v3 v4 w' => ∃ (x3_1 : List (List Int)) (x4_1 : Int), v4 = .int .i64 x4_1 ∧ Aside0 (spec_l8Grid.l0 kq x3_1 x4_1 a0_0 l0_1 = some r) ∧ Aside0 (kq ≤ k) ∧ Aside0 (Kd.S (Kd.slice 3 (Kd.int .i64)) 25 w' w.heap.size (fun _ => True) v3 x3_1) ∧ Aside0 (w'.heap[gb101]? = some (.cells #[.int .i64 a0_0, (.slice A0_1 l0_1.length c0_1)] 35 (0, 0))) ∧ Aside0 (Below w.heap.size w w'))
 case atStart => exact ⟨(y102), (0), ue, H', ⟨Nat.le_refl _⟩, ⟨by (with_reducible repeat (first | apply Kd.S_alloc | apply Kd.S_drewN | apply Kd.S_drew)); exact HO104.out⟩, ⟨ub BK101⟩, ⟨uB1 HB GE101.out⟩⟩
 case round =>
  clear H'; try clear c1
  try clear p2
  obtain ⟨x3_1, x4_1, rfl, HA, HK1, HO_3, BK101, HB⟩ := hrel
  cases gk with
  | zero => exact absurd HA.out (by simp [spec_l8Grid.l0])
  | succ k1 =>
   have H := HA.out; clear HA; simp only [spec_l8Grid.l0] at H; by_cases c5 : x4_1 < a0_0
   ·
    rw [if_pos c5] at H; have c5b0 := dl c5; clear c5; by_cases c6 : 0 ≤ a0_0
    ·
     rw [if_pos c6] at H; have c6b0 := eq_true c6; have c6b1 := de c6; clear c6; by_cases c7 : (a0_0 : Int).toNat ≤ 35184372088832
     ·
      rw [if_pos c7] at H; have c7b0 := eq_true c7; have c7b1 := de c7; clear c7; obtain ⟨y105, hy105⟩ : ∃ y_ : List Int, y_ = (List.replicate (a0_0 : Int).toNat 0) := ⟨_, rfl⟩
      replace H : (spec_l8Grid.l1 k1 x3_1 x4_1 y105 0 a0_0 l0_1) = some r := by first | (rw [hy105]; with_reducible exact H) | (have H2_ := (Option.bind_some _ _).symm.trans H; rw [hy105]; with_reducible exact H2_) | (have H2_ := (Option.bind_some _ _).symm.trans H; with_reducible exact H2_) | with_reducible exact H | (rw [hy105]; exact H) | exact H
      have Ny105 := Aside0.mk hy105; clear hy105; have H' := Aside0.mk H; clear H; obtain ⟨hcz8_0, hcz8_1, hfz8_0, hfz8_1⟩ := bc2 BK101; go_wp2_with (first | ((with_reducible refine gate_dst (N := 18) rfl ?_); refine Kd.R_make (Kd.int .i64) _ 3 rfl (N := 18) rfl 25 _ _ rfl a0_0 rfl rfl Try.underlying25 (.int .i64 0) 8 info3 rfl (by decide) (by omega) 0 (ok := fun _ => True) (okp := fun _ => True) rfl (fun _ hk => hk) trivial (ua) (Nat.le_trans (Nat.mul_le_mul_right _ (ua : a0_0.toNat ≤ 35184372088832)) (by omega)) (Below.refl _ _) (Nat.le_refl _) ?_; intro v106 w9 ho10 hb hg_ hnew_; clear hg_ hnew_; (first | rw [← Ny105.out] at ho10 | (simp only [Int.reduceToNat] at ho10; rw [← Ny105.out] at ho10)); replace HO_3 := Aside0.mk (Kd.S_elder' (by (with_reducible repeat (first | apply Kd.S_alloc | apply Kd.S_drewN | apply Kd.S_drew)); exact HO_3.out) (Kd.R_base ho10) hb); have HO107 := Aside0.mk (Kd.R_lower ho10 (below_size (uB1 HB GE101.out))); replace BK101 := bb BK101 hb; replace HB := Aside0.mk (below_step (uB1 HB GE101.out) hb); clear hb ho10)); go_loopg [6] k1 (fun kq v6 w' => ∃ (x5_2 : List Int) (x6_2 : Int), v6 = .int .i64 x6_2 ∧ Aside0 (spec_l8Grid.l1 kq x3_1 x4_1 x5_2 x6_2 a0_0 l0_1 = some r) ∧ Aside0 (kq ≤ k1) ∧ Aside0 (Kd.S (Kd.slice 3 (Kd.int .i64)) 25 w' w.heap.size (fun k_ => some k_ ≠ (v106 : Value).ownBlock) u3 x3_1) ∧ Aside0 (Kd.R (Kd.int .i64) 3 w' w.heap.size (fun _ => True) v106 x5_2) ∧ Aside0 (w'.heap[gb101]? = some (.cells #[.int .i64 a0_0, (.slice A0_1 l0_1.length c0_1)] 35 (0, 0))) ∧ Aside0 (Below w.heap.size w w'))
      case atStart => exact ⟨(y105), (0), ue, H', ⟨Nat.le_refl _⟩, ⟨by (with_reducible repeat (first | apply Kd.S_alloc | apply Kd.S_drewN | apply Kd.S_drew)); exact Kd.S_mono HO_3.out (fun _ hk => hk.2)⟩, ⟨ur HO107⟩, ⟨ub BK101⟩, ⟨uB1 HB GE101.out⟩⟩
      case round =>
       clear H'; try clear c1
       try clear p2
       try clear c5
       try clear c5b0
       try clear c6
       try clear c6b0
       try clear c6b1
       try clear c7
       try clear c7b0
       try clear c7b1
       try clear c10
       try clear hcz8_0 hcz8_1 hfz8_0 hfz8_1
       try clear p2
       obtain ⟨x5_2, x6_2, rfl, HA, HK2, HO_3, HO_5, BK101, HB⟩ := hrel
       cases gk with
       | zero => exact absurd HA.out (by simp [spec_l8Grid.l1])
       | succ k2 =>
        have H := HA.out; clear HA; simp only [spec_l8Grid.l1] at H; by_cases c11 : x6_2 < a0_0
        ·
         rw [if_pos c11] at H; have c11b0 := dl c11; clear c11; by_cases c12 : 0 ≤ x6_2
         ·
          rw [if_pos c12] at H; have c12b0 := de c12; clear c12; by_cases c13 : x6_2 < (x5_2.length : Int)
          ·
           rw [if_pos c13] at H; have c13b0 := dl c13; clear c13; obtain ⟨y108, hy108⟩ : ∃ y_ : List Int, y_ = (x5_2.set (x6_2 : Int).toNat 99999) := ⟨_, rfl⟩
           replace H : (spec_l8Grid.l1 k2 x3_1 x4_1 y108 (wrap64 (x6_2 + 1)) a0_0 l0_1) = some r := by first | (rw [hy108]; with_reducible exact H) | (have H2_ := (Option.bind_some _ _).symm.trans H; rw [hy108]; with_reducible exact H2_) | (have H2_ := (Option.bind_some _ _).symm.trans H; with_reducible exact H2_) | with_reducible exact H | (rw [hy108]; exact H) | exact H
           have Ny108 := Aside0.mk hy108; clear hy108; have H' := Aside0.mk H; clear H; obtain ⟨hcz15_0, hcz15_1, hfz15_0, hfz15_1⟩ := bc2 BK101; have p14 : 0 ≤ (x6_2 : Int) := ua; have q14 : (x6_2 : Int) < ((x5_2.length : Int) : Int) := ua; obtain ⟨go14, co14, eo14, gb14, gl14, cl14, HG14⟩ := Kd.R_form HO_5.out (by omega); (first | cases eo14 | (injection eo14 with ea_ en_ ec_; (first | subst ea_ | (injection ea_ with ea_; subst ea_)); subst ec_; clear en_)); have GB14 := Aside0.mk gb14; have GG14 := Aside0.mk HG14; clear gb14 gl14 HG14; obtain ⟨hx14_0, hf14_0⟩ := Kd.R_celln 0 HO_5.out (x6_2 : Int) p14 q14; replace p14 := eq_true p14; replace q14 := eq_true q14; have HP16 := Kd.R_putg HO_5.out (x6_2 : Int) 99999; go_wp2_with (first | ((with_reducible refine gate_store (t := 3) (p := 27) rfl ?_); refine store_event (t := 3) (p := 27) (v := ?vo_w17) (w1 := (wr.setCell ⟨go14, (x6_2 : Int).toNat, none⟩ (.int .i64 99999))) ?hg ?ho ?hn ?hr ?_; (case ho => rfl); (case hg => rfl); (case hn => rfl); (case hr => first | (go_simp; done) | (go_simp; rfl)); intro w17 hw; have hg : wr.grownBy w17 (some go14) := (by rw [hw]; exact HP16.2); have hp_ : Kd.R (Kd.int .i64) 3 w17 w.heap.size (fun _ => True) (.slice (some ⟨go14, 0, none⟩) x5_2.length co14) y108 := (by rw [hw, Ny108.out]; exact HP16.1); clear HP16; replace HO_3 := Aside0.mk (Kd.S_after (v := (.slice (some ⟨go14, 0, none⟩) x5_2.length co14)) (v1 := (.slice (some ⟨go14, 0, none⟩) x5_2.length co14)) (ok := (fun _ => True)) (by (with_reducible repeat (first | apply Kd.S_alloc | apply Kd.S_drewN | apply Kd.S_drew)); exact Kd.S_mono HO_3.out (fun _ hk => ⟨trivial, hk⟩)) hg (.inl rfl)); replace BK101 := bg BK101 hg (Kd.R_ne HO_5.out BK101.out (by decide)); replace HO_5 := Aside0.mk (hp_); replace HB := Aside0.mk ((by rw [hw]; exact below_set (HB.out) GB14.out : Below w.heap.size w w17)); clear hg hw hp_)); go_roundg k2
           case measure => have := HK1.out; have := HK2.out; omega
           case rel => exact ⟨(y108), (wrap64 (x6_2 + 1)), ue, H', ⟨by have := HK1.out; have := HK2.out; omega⟩, ⟨by (with_reducible repeat (first | apply Kd.S_alloc | apply Kd.S_drewN | apply Kd.S_drew)); exact Kd.S_mono HO_3.out (fun _ hk => hk.2)⟩, ⟨ur HO_5⟩, ⟨ub BK101⟩, ⟨uB1 HB GE101.out⟩⟩
          ·
           rw [if_neg c13] at H; exact absurd H (by simp)
         ·
          rw [if_neg c12] at H; exact absurd H (by simp)
        ·
         rw [if_neg c11] at H; have c11b0 := DL c11; clear c11; by_cases c18 : x3_1.length < 5864062014805
         ·
          rw [if_pos c18] at H; have LMc18 := Aside0.mk c18; clear c18; obtain ⟨y109, hy109⟩ : ∃ y_ : List (List Int), y_ = (x3_1 ++ [x5_2]) := ⟨_, rfl⟩
          replace H : (spec_l8Grid.l0 k2 y109 (wrap64 (x4_1 + 1)) a0_0 l0_1) = some r := by first | (rw [hy109]; with_reducible exact H) | (have H2_ := (Option.bind_some _ _).symm.trans H; rw [hy109]; with_reducible exact H2_) | (have H2_ := (Option.bind_some _ _).symm.trans H; with_reducible exact H2_) | with_reducible exact H | (rw [hy109]; exact H) | exact H
          have Ny109 := Aside0.mk hy109; clear hy109; have H' := Aside0.mk H; clear H; obtain ⟨hcz19_0, hcz19_1, hfz19_0, hfz19_1⟩ := bc2 BK101; obtain ⟨Ao21, co21, eo21⟩ := Kd.R_slice HO_5.out; subst eo21; go_wp2_with (first | ((with_reducible refine gate_builtin (b := .append) (xs := #[.tmp 28, .tmp 30]) rfl ?_); at_builtin; refine Kd.S_append (Kd.slice 3 (Kd.int .i64)) (w0 := w) w.heap.size rfl (.tmp 28) (.tmp 30) 26 25 (.slice none 0 0) 24 rfl Try.underlying26 info25 rfl (by decide) (by omega) u3 x3_1 x5_2 [.slice Ao21 x5_2.length co21] (fun _ => True) (fun k_ => some k_ = (.slice Ao21 x5_2.length co21 : Value).ownBlock) rfl rfl ?aP (fun k_ hk_ => ((Kd.R_mono (ok' := fun k_ => ((fun _ => True)) k_ ∧ some k_ ≠ (u3 : Value).ownBlock) (Kd.R_apart' (HO_5.out) (Kd.S_typed HO_3.out) (by decide)) (fun k_ hk => ⟨trivial, hk.2⟩))).1 k_ hk_.symm) ?aF ?aO ?aB ?aS ?aL ?_; (case aP => exact Kd.M_row (Kd.R_mono (Kd.R_tight rfl (Kd.R_mono (ok' := fun k_ => ((fun _ => True)) k_ ∧ some k_ ≠ (u3 : Value).ownBlock) (Kd.R_apart' (HO_5.out) (Kd.S_typed HO_3.out) (by decide)) (fun k_ hk => ⟨trivial, hk.2⟩))) (fun _ h_ => h_))); (case aB => exact (uB1 HB GE101.out)); (case aF => exact (fun _ _ => trivial)); (case aO => exact (by (with_reducible repeat (first | apply Kd.S_alloc | apply Kd.S_drewN | apply Kd.S_drew)); exact Kd.S_mono HO_3.out (fun k_ hk => ⟨trivial, fun e_ => hk e_⟩))); (case aS => exact (below_size (uB1 HB GE101.out))); (case aL => have := LMc18.out; omega); intro v110 w20 ho hb hg hat; rw [← Ny109.out] at ho; replace BK101 := Aside0.mk (blk_grown (g := gb101) (o := .cells #[.int .i64 a0_0, .slice A0_1 l0_1.length c0_1] 35 (0, 0)) (ub BK101) hg (Kd.S_ne HO_3.out BK101.out (by decide))); replace HB := Aside0.mk (hb); have HO111 := Aside0.mk (ho); clear HO_3; clear HO_5; clear ho hb hg hat)); go_roundg k2
          case measure => have := HK1.out; have := HK2.out; omega
          case rel => exact ⟨(y109), (wrap64 (x4_1 + 1)), ue, H', ⟨by have := HK1.out; have := HK2.out; omega⟩, ⟨by (with_reducible repeat (first | apply Kd.S_alloc | apply Kd.S_drewN | apply Kd.S_drew)); exact HO111.out⟩, ⟨ub BK101⟩, ⟨uB1 HB GE101.out⟩⟩
         ·
          rw [if_neg c18] at H; exact absurd H (by simp)
     ·
      rw [if_neg c7] at H; exact absurd H (by simp)
    ·
     rw [if_neg c6] at H; exact absurd H (by simp)
   ·
    rw [if_neg c5] at H; have c5b0 := DL c5; clear c5; have H' := Aside0.mk H; clear H; obtain ⟨hcz22_0, hcz22_1, hfz22_0, hfz22_1⟩ := bc2 BK101; go_wp2; go_loopg [7] k1 (fun kq v7 w' => ∃ (x3_2 : List (List Int)) (x7_2 : Int), v7 = .int .i64 x7_2 ∧ Aside0 (spec_l8Grid.l2 kq x3_2 x7_2 a0_0 l0_1 = some r) ∧ Aside0 (kq ≤ k1) ∧ Aside0 (Kd.S (Kd.slice 3 (Kd.int .i64)) 25 w' w.heap.size (fun _ => True) u3 x3_2) ∧ Aside0 (w'.heap[gb101]? = some (.cells #[.int .i64 a0_0, (.slice A0_1 l0_1.length c0_1)] 35 (0, 0))) ∧ Aside0 (Below w.heap.size w w'))
    case atStart => exact ⟨(x3_1), (0), ue, H', ⟨Nat.le_refl _⟩, ⟨by (with_reducible repeat (first | apply Kd.S_alloc | apply Kd.S_drewN | apply Kd.S_drew)); exact HO_3.out⟩, ⟨ub BK101⟩, ⟨uB1 HB GE101.out⟩⟩
    case round =>
     clear H'; try clear c1
     try clear p1
     try clear q1
     try clear hx1
     try clear hf1
     try clear p2
     try clear c5
     try clear c5b0
     try clear c6
     try clear c6b0
     try clear c6b1
     try clear p6
     try clear c7
     try clear c7b0
     try clear c7b1
     try clear c10
     try clear c11
     try clear c11b0
     try clear c12
     try clear c12b0
     try clear c13
     try clear c13b0
     try clear p14
     try clear q14
     try clear hx14
     try clear hf14
     try clear c18
     try clear hcz15_0 hcz15_1
     try clear hcz19_0 hcz19_1
     try clear hcz22_0 hcz22_1
     try clear hcz8_0 hcz8_1
     try clear hfz15_0 hfz15_1
     try clear hfz19_0 hfz19_1
     try clear hfz22_0 hfz22_1
     try clear hfz8_0 hfz8_1
     try clear hx14_0
     try clear p14
     try clear p2
     try clear q14
     obtain ⟨x3_2, x7_2, rfl, HA, HK2, HO_3, BK101, HB⟩ := hrel
     cases gk with
     | zero => exact absurd HA.out (by simp [spec_l8Grid.l2])
     | succ k2 =>
      have H := HA.out; clear HA; simp only [spec_l8Grid.l2] at H; by_cases c23 : x7_2 < (l0_1.length : Int)
      ·
       rw [if_pos c23] at H; have c23b0 := dl c23; clear c23; by_cases c24 : 0 ≤ x7_2
       ·
        rw [if_pos c24] at H; have c24b0 := de c24; clear c24; by_cases c25 : 0 ≤ ((rd_T61 l0_1 x7_2).f0)
        ·
         rw [if_pos c25] at H; have c25b0 := de c25; clear c25; by_cases c26 : ((rd_T61 l0_1 x7_2).f0) < (x3_2.length : Int)
         ·
          rw [if_pos c26] at H; have c26b0 := dl c26; clear c26; by_cases c27 : 0 ≤ ((rd_T61 l0_1 x7_2).f1)
          ·
           rw [if_pos c27] at H; have c27b0 := de c27; clear c27; by_cases c28 : ((rd_T61 l0_1 x7_2).f1) < ((rd_L5 x3_2 ((rd_T61 l0_1 x7_2).f0)).length : Int)
           ·
            rw [if_pos c28] at H; have c28b0 := dl c28; clear c28; have HH_ := Aside0.mk H; clear H; obtain ⟨hcz29_0, hcz29_1, hfz29_0, hfz29_1⟩ := bc2 BK101; have p112 : 0 ≤ (x7_2 : Int) := ua; have q112 : x7_2 < (l0_1.length : Int) := ua; obtain ⟨ad112, e112, hx112_0, hx112_1, hx112_2, hx112_3, hx112_4⟩ := at_T61 HR0_1.out x7_2 p112 q112
            cases e112
            replace hx112_0 := uc HB hx112_0; replace hx112_1 := uc HB hx112_1; replace hx112_2 := uc HB hx112_2; replace hx112_3 := uc HB hx112_3; replace hx112_4 := uc HB hx112_4; replace p112 := eq_true p112; replace q112 := eq_true q112; try go_wp2_with (first | ((with_reducible refine gate_dst (N := 8) rfl ?_); refine be (cs := #[.int .i64 0, .int .i64 0, .int .i64 0, .int .i64 0, .int .i64 0]) (t := 61) ?_; intro gb113 hg w30 hbox hb; replace HO_3 := Aside0.mk (Kd.S_below (by (with_reducible repeat (first | apply Kd.S_alloc | apply Kd.S_drewN | apply Kd.S_drew)); exact HO_3.out) hb); have BK113 := Aside0.mk (hbox); have GW113 := gz w hg (uB1 HB GE101.out); have GE113 := gz w hg (uB1 HB GE101.out); replace HB := Aside0.mk (below_step (uB1 HB GE101.out) hb); have NB101_113 := gl hg BK101; have NB113_101 := gr hg BK101; replace BK101 := bb BK101 hb; clear hb hbox hg; have hnb31 := NB113_101.out; have hnc31 := NB101_113.out; obtain ⟨hcz32_0, hcz32_1, hcz32_2, hcz32_3, hcz32_4, hfz32_0, hfz32_1, hfz32_2, hfz32_3, hfz32_4⟩ := bc5 BK113))
            have n0_ : Aside0 (Kd.S (Kd.slice 3 (Kd.int .i64)) 25 (((((w30.setCell ⟨gb113, 0, none⟩ (.int .i64 ((rd_T61 l0_1 x7_2).f0))).setCell ⟨gb113, 1, none⟩ (.int .i64 ((rd_T61 l0_1 x7_2).f1))).setCell ⟨gb113, 2, none⟩ (.int .i64 ((rd_T61 l0_1 x7_2).f2))).setCell ⟨gb113, 3, none⟩ (.int .i64 ((rd_T61 l0_1 x7_2).f3))).setCell ⟨gb113, 4, none⟩ (.int .i64 ((rd_T61 l0_1 x7_2).f4))) w.heap.size (fun _ => True) u3 x3_2) := ⟨by (with_reducible repeat (first | apply Kd.S_alloc | apply Kd.S_drewN | apply Kd.S_drew)); exact Kd.S_mono (Kd.S_far (p := ⟨gb113, 4, none⟩) (Kd.S_far (p := ⟨gb113, 3, none⟩) (Kd.S_far (p := ⟨gb113, 2, none⟩) (Kd.S_far (p := ⟨gb113, 1, none⟩) (Kd.S_far (p := ⟨gb113, 0, none⟩) (Kd.S_types HO_3.out BK113.out (by decide)) (fun _ hk => hk.2) (.int .i64 ((rd_T61 l0_1 x7_2).f0))) (fun _ hk => hk.2) (.int .i64 ((rd_T61 l0_1 x7_2).f1))) (fun _ hk => hk.2) (.int .i64 ((rd_T61 l0_1 x7_2).f2))) (fun _ hk => hk.2) (.int .i64 ((rd_T61 l0_1 x7_2).f3))) (fun _ hk => hk.2) (.int .i64 ((rd_T61 l0_1 x7_2).f4))) (fun _ hk => trivial)⟩
            have n1_ : Aside0 ((((((w30.setCell ⟨gb113, 0, none⟩ (.int .i64 ((rd_T61 l0_1 x7_2).f0))).setCell ⟨gb113, 1, none⟩ (.int .i64 ((rd_T61 l0_1 x7_2).f1))).setCell ⟨gb113, 2, none⟩ (.int .i64 ((rd_T61 l0_1 x7_2).f2))).setCell ⟨gb113, 3, none⟩ (.int .i64 ((rd_T61 l0_1 x7_2).f3))).setCell ⟨gb113, 4, none⟩ (.int .i64 ((rd_T61 l0_1 x7_2).f4))).heap[gb101]? = some (.cells #[.int .i64 a0_0, .slice (some ad112) l0_1.length c0_1] 35 (0, 0))) := ⟨by (with_reducible repeat first | apply zbn | apply zbd | apply zba); refine fa5 ?_ NB101_113; exact ub BK101⟩
            have n2_ : Aside0 ((((((w30.setCell ⟨gb113, 0, none⟩ (.int .i64 ((rd_T61 l0_1 x7_2).f0))).setCell ⟨gb113, 1, none⟩ (.int .i64 ((rd_T61 l0_1 x7_2).f1))).setCell ⟨gb113, 2, none⟩ (.int .i64 ((rd_T61 l0_1 x7_2).f2))).setCell ⟨gb113, 3, none⟩ (.int .i64 ((rd_T61 l0_1 x7_2).f3))).setCell ⟨gb113, 4, none⟩ (.int .i64 ((rd_T61 l0_1 x7_2).f4))).heap[gb113]? = some (.cells #[.int .i64 ((rd_T61 l0_1 x7_2).f0), .int .i64 ((rd_T61 l0_1 x7_2).f1), .int .i64 ((rd_T61 l0_1 x7_2).f2), .int .i64 ((rd_T61 l0_1 x7_2).f3), .int .i64 ((rd_T61 l0_1 x7_2).f4)] 61 (0, 0))) := ⟨by (with_reducible repeat first | apply zbn | apply zbd | apply zba); refine pu5 (.int .i64 0) (.int .i64 0) (.int .i64 0) (.int .i64 0) (.int .i64 0) ?_; exact ub BK113⟩
            have n3_ : Aside0 (Below w.heap.size w (((((w30.setCell ⟨gb113, 0, none⟩ (.int .i64 ((rd_T61 l0_1 x7_2).f0))).setCell ⟨gb113, 1, none⟩ (.int .i64 ((rd_T61 l0_1 x7_2).f1))).setCell ⟨gb113, 2, none⟩ (.int .i64 ((rd_T61 l0_1 x7_2).f2))).setCell ⟨gb113, 3, none⟩ (.int .i64 ((rd_T61 l0_1 x7_2).f3))).setCell ⟨gb113, 4, none⟩ (.int .i64 ((rd_T61 l0_1 x7_2).f4)))) := ⟨uB2 HB GE101.out GE113.out⟩
            (try clear HO_3); (try clear BK101); (try clear BK113); (try clear HB); generalize (((((w30.setCell ⟨gb113, 0, none⟩ (.int .i64 ((rd_T61 l0_1 x7_2).f0))).setCell ⟨gb113, 1, none⟩ (.int .i64 ((rd_T61 l0_1 x7_2).f1))).setCell ⟨gb113, 2, none⟩ (.int .i64 ((rd_T61 l0_1 x7_2).f2))).setCell ⟨gb113, 3, none⟩ (.int .i64 ((rd_T61 l0_1 x7_2).f3))).setCell ⟨gb113, 4, none⟩ (.int .i64 ((rd_T61 l0_1 x7_2).f4))) = w33 at n0_ n1_ n2_ n3_ ⊢; have HO_3 := n0_; have BK101 := n1_; have BK113 := n2_; have HB := n3_; clear n0_ n1_ n2_ n3_; replace HO_3 := Aside0.mk (Kd.S_drew HO_3.out); replace BK101 := Aside0.mk (blk_drew BK101.out); replace BK113 := Aside0.mk (blk_drew BK113.out); replace HB := Aside0.mk (below_drew1 HB.out); obtain ⟨Ao35, co35, eo35⟩ := Kd.S_slice HO_3.out; (first | subst eo35 | (injection eo35 with f1_ f2_ f3_; have f4_ := f1_.symm; have f5_ := f3_.symm; clear f1_ f2_ f3_; subst f4_; subst f5_)); have p114 : 0 ≤ (((rd_T61 l0_1 x7_2).f0) : Int) := ua; have q114 : ((rd_T61 l0_1 x7_2).f0) < (x3_2.length : Int) := ua; obtain ⟨ad114, A114_0, c114_0, e114, hx114_0, hl114_0, hi114_0⟩ := at_L5 (Kd.S_reads' HO_3.out).2.2 ((rd_T61 l0_1 x7_2).f0) p114 q114
            cases e114
            obtain ⟨ce114, hce114, hMe114, hcc114⟩ := Kd.S_get HO_3.out [] ((rd_T61 l0_1 x7_2).f0) p114 (by first | exact q114 | exact ua | (have e_ := (Kd.S_reads' HO_3.out).1; omega)); obtain ⟨ve114_0, rfl, ge114_0⟩ := hMe114; have hv114_0 := hcc114 0 _ rfl; rw [Nat.add_zero, show ((Kd.slice 3 (Kd.int .i64))).sz = 1 from rfl, Nat.mul_one] at hv114_0; replace hv114_0 := Option.some.inj (hv114_0.symm.trans hx114_0); rw [hv114_0] at ge114_0; have HL114_0 := Aside0.mk (show Kd.R (Kd.int .i64) 3 _ _ _ _ (rd_L5 x3_2 ((rd_T61 l0_1 x7_2).f0)) from ge114_0); clear hv114_0 ge114_0; have HX114_0 := Aside0.mk hx114_0; clear hcc114 hce114; have HR114_0 := Aside0.mk hi114_0; have HC114_0 := Aside0.mk hl114_0; clear hi114_0 hl114_0; replace p114 := eq_true p114; replace q114 := eq_true q114; have p115 : 0 ≤ (((rd_T61 l0_1 x7_2).f1) : Int) := ua; have q115 : ((rd_T61 l0_1 x7_2).f1) < ((rd_L5 x3_2 ((rd_T61 l0_1 x7_2).f0)).length : Int) := ua; obtain ⟨ad115, e115, hx115_0⟩ := Kd.at_int (by repeat (first | (with_reducible exact HR114_0.out) | (with_reducible refine Kd.C_alloc ?_ _) | (with_reducible refine Kd.C_drewN ?_ _) | (with_reducible refine Kd.C_drew ?_) | exact HR114_0.out)) ((rd_T61 l0_1 x7_2).f1) p115 q115
            cases e115
            replace p115 := eq_true p115; replace q115 := eq_true q115; refine start_ (n := 12) (S := fun w' => w'.cell? ⟨gb113, 0, none⟩ = some (.int .i64 ((rd_T61 l0_1 x7_2).f0)) ∧ w'.cell? ⟨gb113, 1, none⟩ = some (.int .i64 ((rd_T61 l0_1 x7_2).f1)) ∧ w'.cell? ⟨gb113, 2, none⟩ = some (.int .i64 ((rd_T61 l0_1 x7_2).f2)) ∧ w'.cell? ⟨gb113, 3, none⟩ = some (.int .i64 ((rd_T61 l0_1 x7_2).f3)) ∧ w'.cell? ⟨gb113, 4, none⟩ = some (.int .i64 ((rd_T61 l0_1 x7_2).f4)) ∧ w'.cell? (ad114.add (((rd_T61 l0_1 x7_2).f0)).toNat) = some (.slice (some ad115) (rd_L5 x3_2 ((rd_T61 l0_1 x7_2).f0)).length c114_0) ∧ w'.cell? (ad115.add (((rd_T61 l0_1 x7_2).f1)).toNat) = some (.int .i64 (rd (rd_L5 x3_2 ((rd_T61 l0_1 x7_2).f0)) ((rd_T61 l0_1 x7_2).f1)))) (ds := []) (zt 12 0) (by kernel_rfl) rfl (by kernel_rfl) (b5x BK113 ⟨hx114_0, hx115_0⟩) (fun hHeld => ?_); refine with_tabW spec_l8Grid.tab15 spec_l8Grid.bits15 (fun HT_ HW_ => ?_); generalize w33.drew = w34 at HO_3 BK101 BK113 HB HL114_0 HR114_0 HX114_0 hx114_0 hx115_0 hHeld ⊢; refine qz HT_ 0 ?_; refine qz HT_ 2 ?_; refine qz HT_ 3 ?_; refine qz HT_ 7 ?_; refine qt HT_ HW_ hHeld 1 ?_; refine qt HT_ HW_ hHeld 4 ?_; refine qz HT_ 5 ?_; refine qt HT_ HW_ hHeld 6 ?_; refine qt HT_ HW_ hHeld 8 ?_; refine qz HT_ 9 ?_; refine qt HT_ HW_ hHeld 10 ?_; refine qz HT_ 11 ?_; refine done_ (done_of HT_.out (by kernel_rfl)) ?_; have H := HH_.out; clear HH_; by_cases c36 : ((rd_T61 l0_1 x7_2).f2) < (rd (rd_L5 x3_2 ((rd_T61 l0_1 x7_2).f0)) ((rd_T61 l0_1 x7_2).f1))
            ·
             rw [if_pos c36] at H; have c36b0 := dl c36; try simp only [c36b0]
             clear c36; obtain ⟨y117, hy117⟩ : ∃ y_ : List Int, y_ = ((rd_L5 x3_2 ((rd_T61 l0_1 x7_2).f0)).set (((rd_T61 l0_1 x7_2).f1) : Int).toNat ((rd_T61 l0_1 x7_2).f2)) := ⟨_, rfl⟩
             replace H : (spec_l8Grid.l2 k2 (x3_2.set (((rd_T61 l0_1 x7_2).f0) : Int).toNat y117) (wrap64 (x7_2 + 1)) a0_0 l0_1) = some r := by first | (rw [hy117]; with_reducible exact H) | (have H2_ := (Option.bind_some _ _).symm.trans H; rw [hy117]; with_reducible exact H2_) | (have H2_ := (Option.bind_some _ _).symm.trans H; with_reducible exact H2_) | with_reducible exact H | (rw [hy117]; exact H) | exact H
             have Ny117 := Aside0.mk hy117; clear hy117; obtain ⟨y119, hy119⟩ : ∃ y_ : List (List Int), y_ = (x3_2.set (((rd_T61 l0_1 x7_2).f0) : Int).toNat y117) := ⟨_, rfl⟩
             replace H : (spec_l8Grid.l2 k2 y119 (wrap64 (x7_2 + 1)) a0_0 l0_1) = some r := by first | (rw [hy119]; with_reducible exact H) | (have H2_ := (Option.bind_some _ _).symm.trans H; rw [hy119]; with_reducible exact H2_) | (have H2_ := (Option.bind_some _ _).symm.trans H; with_reducible exact H2_) | with_reducible exact H | (rw [hy119]; exact H) | exact H
             have Ny119 := Aside0.mk hy119; clear hy119; have H' := Aside0.mk H; clear H; try go_wp2
             replace HO_3 := Aside0.mk (Kd.S_drew HO_3.out); replace HL114_0 := Aside0.mk (Kd.R_drew HL114_0.out); replace BK101 := Aside0.mk (blk_drew BK101.out); replace BK113 := Aside0.mk (blk_drew BK113.out); replace HR114_0 := Aside0.mk (Kd.C_drew HR114_0.out); replace HB := Aside0.mk (below_drew1 HB.out); have p116 : 0 ≤ (((rd_T61 l0_1 x7_2).f0) : Int) := ua; have q116 : ((rd_T61 l0_1 x7_2).f0) < (x3_2.length : Int) := ua; obtain ⟨ad116, A116_0, c116_0, e116, hx116_0, hl116_0, hi116_0⟩ := at_L5 (Kd.S_reads' HO_3.out).2.2 ((rd_T61 l0_1 x7_2).f0) p116 q116; obtain rfl : ad114 = ad116 := (by injection e116)
             obtain ⟨ce116, hce116, hMe116, hcc116⟩ := Kd.S_get HO_3.out [] ((rd_T61 l0_1 x7_2).f0) p116 (by first | exact q116 | exact ua | (have e_ := (Kd.S_reads' HO_3.out).1; omega)); obtain ⟨ve116_0, rfl, ge116_0⟩ := hMe116; have hv116_0 := hcc116 0 _ rfl; rw [Nat.add_zero, show ((Kd.slice 3 (Kd.int .i64))).sz = 1 from rfl, Nat.mul_one] at hv116_0; replace hv116_0 := Option.some.inj (hv116_0.symm.trans hx116_0); rw [hv116_0] at ge116_0; have HL116_0 := Aside0.mk (show Kd.R (Kd.int .i64) 3 _ _ _ _ (rd_L5 x3_2 ((rd_T61 l0_1 x7_2).f0)) from ge116_0); clear hv116_0 ge116_0; have HX116_0 := Aside0.mk hx116_0; clear hcc116 hce116; have HR116_0 := Aside0.mk hi116_0; have HC116_0 := Aside0.mk hl116_0; clear hi116_0 hl116_0; replace p116 := eq_true p116; replace q116 := eq_true q116; have p37 : 0 ≤ (((rd_T61 l0_1 x7_2).f1) : Int) := ua; have q37 : (((rd_T61 l0_1 x7_2).f1) : Int) < (((rd_L5 x3_2 ((rd_T61 l0_1 x7_2).f0)).length : Int) : Int) := ua; obtain ⟨go37, co37, eo37, gb37, gl37, cl37, HG37⟩ := Kd.R_form HL116_0.out (by omega); (first | cases eo37 | (injection eo37 with ea_ en_ ec_; (first | subst ea_ | (injection ea_ with ea_; subst ea_)); subst ec_; clear en_)); have GB37 := Aside0.mk gb37; have GG37 := Aside0.mk HG37; clear gb37 gl37 HG37; obtain ⟨hx37_0, hf37_0⟩ := Kd.R_celln 0 HL116_0.out (((rd_T61 l0_1 x7_2).f1) : Int) p37 q37; replace p37 := eq_true p37; replace q37 := eq_true q37; have hq37 : (((rd_T61 l0_1 x7_2).f0) : Int) < (x3_2.length : Int) := (by have h_ : (((rd_T61 l0_1 x7_2).f0) : Int) < ((x3_2.length : Int) : Int) := ua; first | exact h_ | (have e_ := (Kd.S_reads' HO_3.out).1; omega) | simpa only [List.length_set, List.length_set] using h_)
             obtain ⟨oki37, ce37, hcl37, hM37, hcc37, hok37, hbk37⟩ := Kd.S_borrow HO_3.out [] (((rd_T61 l0_1 x7_2).f0) : Int) (ua) hq37; obtain ⟨ve37_0, rfl, ge37_0⟩ := hM37; have hv37 := hcc37 0 _ rfl; rw [Nat.add_zero, show ((Kd.slice 3 (Kd.int .i64))).sz = 1 from rfl, Nat.mul_one] at hv37; replace hv37 := Option.some.inj (hv37.symm.trans HX116_0.out); subst hv37; clear hcc37 hcl37; replace ge37_0 := (show Kd.R (Kd.int .i64) 3 _ _ _ _ (rd_L5 x3_2 ((rd_T61 l0_1 x7_2).f0)) from ge37_0)
             have HP37 := Kd.R_putg ge37_0 (((rd_T61 l0_1 x7_2).f1) : Int) ((rd_T61 l0_1 x7_2).f2); rw [← Ny117.out] at HP37; have HS37 := hbk37 HP37.2 (fun k_ e_ => by injection e_ with e_; subst e_; exact ge37_0.1 _ rfl) (x' := y117) (Kd.M_row HP37.1); rw [← Ny119.out] at HS37; have HQ37 := Aside0.mk HS37; clear HP37 HS37 hbk37 hok37; refine start_ (n := 11) (S := fun w' => w'.cell? ⟨gb113, 0, none⟩ = some (.int .i64 ((rd_T61 l0_1 x7_2).f0)) ∧ w'.cell? ⟨gb113, 1, none⟩ = some (.int .i64 ((rd_T61 l0_1 x7_2).f1)) ∧ w'.cell? ⟨gb113, 2, none⟩ = some (.int .i64 ((rd_T61 l0_1 x7_2).f2)) ∧ w'.cell? ⟨gb113, 3, none⟩ = some (.int .i64 ((rd_T61 l0_1 x7_2).f3)) ∧ w'.cell? ⟨gb113, 4, none⟩ = some (.int .i64 ((rd_T61 l0_1 x7_2).f4)) ∧ w'.cell? (ad114.add (((rd_T61 l0_1 x7_2).f0)).toNat) = some (.slice (some ⟨go37, 0, none⟩) (rd_L5 x3_2 ((rd_T61 l0_1 x7_2).f0)).length c116_0)) (ds := [10]) (zt 11 0) (by kernel_rfl) rfl (by kernel_rfl) (b5x BK113 hx116_0) (fun hHeld => ?_); refine with_tabW spec_l8Grid.tab16 spec_l8Grid.bits16 (fun HT_ HW_ => ?_); generalize w34.drew = w36 at HO_3 HL114_0 BK101 BK113 HR114_0 HB GG37 HL116_0 HQ37 HR116_0 HX116_0 hf37_0 hx116_0 hx37_0 hHeld ⊢; refine qz HT_ 0 ?_; refine qz HT_ 1 ?_; refine qz HT_ 5 ?_; refine qz HT_ 7 ?_; refine qt HT_ HW_ hHeld 2 ?_; refine qz HT_ 3 ?_; refine qt HT_ HW_ hHeld 4 ?_; refine qt HT_ HW_ hHeld 6 ?_; refine qt HT_ HW_ hHeld 8 ?_; refine qz HT_ 9 ?_; refine last_ (i := 10) (N := none) (zt 11 2047) rfl rfl (one_of HT_.out (by kernel_rfl)) (by decide) (fun K hK => ?_); refine skip_ (w1 := ?_) (by rfl) rfl ?_ ?_; rotate_left
             ·
              go_simp; rfl
             refine hK.out _ _ ?_; clear hK K; refine done_ (done_of HT_.out (by kernel_rfl)) ?_; try go_wp2
             go_roundg k2
             case measure => have := HK1.out; have := HK2.out; omega
             case rel => exact ⟨(y119), (wrap64 (x7_2 + 1)), ue, H', ⟨by have := HK1.out; have := HK2.out; omega⟩, ⟨by (with_reducible repeat (first | apply Kd.S_alloc | apply Kd.S_drewN | apply Kd.S_drew)); exact HQ37.out⟩, ⟨by (with_reducible repeat first | apply zbn | apply zbd | apply zba); refine blk_far ?_ (by have h_ := Kd.R_ne HL116_0.out BK101.out (by decide); intro e_; exact h_ (by rw [e_]; rfl)) _; exact ub BK101⟩, ⟨uB3 HB GB37.out GE101.out GE113.out⟩⟩
            ·
             rw [if_neg c36] at H; have c36b0 := DL c36; try simp only [c36b0]
             clear c36; have H' := Aside0.mk H; clear H; go_wp2; go_roundg k2
             case measure => have := HK1.out; have := HK2.out; omega
             case rel => exact ⟨(x3_2), (wrap64 (x7_2 + 1)), ue, H', ⟨by have := HK1.out; have := HK2.out; omega⟩, ⟨by (with_reducible repeat (first | apply Kd.S_alloc | apply Kd.S_drewN | apply Kd.S_drew)); exact HO_3.out⟩, ⟨ub BK101⟩, ⟨uB2 HB GE101.out GE113.out⟩⟩
           ·
            rw [if_neg c28] at H; exact absurd H (by simp)
          ·
           rw [if_neg c27] at H; exact absurd H (by simp)
         ·
          rw [if_neg c26] at H; exact absurd H (by simp)
        ·
         rw [if_neg c25] at H; exact absurd H (by simp)
       ·
        rw [if_neg c24] at H; exact absurd H (by simp)
      ·
       rw [if_neg c23] at H; have c23b0 := DL c23; clear c23; obtain rfl := Option.some.inj H; obtain ⟨hcz39_0, hcz39_1, hfz39_0, hfz39_1⟩ := bc2 BK101; go_wp2; go_ret; exact ⟨_, by first | rfl | (simp [errW_none, errW_some] <;> rfl) | (simp [*, errW_none, errW_some] <;> rfl), by (with_reducible repeat (first | apply Kd.S_alloc | apply Kd.S_drewN | apply Kd.S_drew)); exact HO_3.out, uB1 HB GE101.out⟩

end Go.Proofs.Ytdlaaccnaokdnaa.P
