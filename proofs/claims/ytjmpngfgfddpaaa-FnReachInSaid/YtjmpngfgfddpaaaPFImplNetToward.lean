-- written for this claim by a program (wip/gen/myprint.py over the print tool). Not trusted: Lean checks it.
import Derived.Test.YtjmpngfgfddpaaaPx0
import Derived.Test.YtjmpngfgfddpaaaHUp
import Derived.Test.YtjmpngfgfddpaaaGDist
import Derived.Test.YtjmpngfgfddpaaaHRepeat
namespace Go.Proofs.Ytjmpngfgfddpaaa.P
open Go.RowKit Go.Proofs.YtjmpngfgfddpaaaV.PrintWords Go.Proofs.YtjmpngfgfddpaaaV.PrintLast
set_option linter.unusedVariables false
set_option linter.unusedSimpArgs false

/-! ### impl_Net_toward: function 163 -/
mutual
def impl_Net_toward.l0 : Nat → List (S135) → Bool → Int → List (S33) → Option ((List (S135)))
 | 0, _, _, _, _ => none
 | k + 1, x5, x6, x102000, x102001 => if x6 = true then (impl_Net_toward.l1 k x5 false x102001 (x102001.length : Int) 0 x102000 x102001) else (some x5)
def impl_Net_toward.l1 : Nat → List (S135) → Bool → List (S33) → Int → Int → Int → List (S33) → Option ((List (S135)))
 | 0, _, _, _, _, _, _, _ => none
 | k + 1, x5, x6, x21, x22, x23, x102000, x102001 => if x23 < x22 then (if 0 ≤ x23 then (if x23 < (x21.length : Int) then (if 0 ≤ ((rd_T33 x21 x23).f1) then (if ((rd_T33 x21 x23).f1) < (x5.length : Int) then (if ((rd_T135 x5 ((rd_T33 x21 x23).f1)).f0) = 99999 then (impl_Net_toward.l1 k x5 x6 x21 x22 (wrap64 (x23 + 1)) x102000 x102001) else (if 0 ≤ ((rd_T33 x21 x23).f0) then (if ((rd_T33 x21 x23).f0) < (x5.length : Int) then ((impl_measure_less.f (wrap64 (((rd_T135 x5 ((rd_T33 x21 x23).f1)).f0) + ((rd_T33 x21 x23).f2))) (wrap64 (((rd_T135 x5 ((rd_T33 x21 x23).f1)).f1) + 1)) ((rd_T135 x5 ((rd_T33 x21 x23).f0)).f0) ((rd_T135 x5 ((rd_T33 x21 x23).f0)).f1)).bind fun t114 => (if t114 = true then (impl_Net_toward.l1 k (x5.set (((rd_T33 x21 x23).f0) : Int).toNat (⟨wrap64 (((rd_T135 x5 ((rd_T33 x21 x23).f1)).f0) + ((rd_T33 x21 x23).f2)), wrap64 (((rd_T135 x5 ((rd_T33 x21 x23).f1)).f1) + 1)⟩ : S135)) true x21 x22 (wrap64 (x23 + 1)) x102000 x102001) else (impl_Net_toward.l1 k x5 x6 x21 x22 (wrap64 (x23 + 1)) x102000 x102001))) else (none)) else (none))) else (none)) else (none)) else (none)) else (none)) else (impl_Net_toward.l0 k x5 x6 x102000 x102001)
end
def impl_Net_toward.f (k : Nat) (a0_0 : Int) (l0_1 : List (S33)) (a1 : Int) : Option ((List (S135))) := (slices_Repeat_measure.f (([(⟨99999, 0⟩ : S135)] : List (S135))) a0_0).bind fun t105 => (if 0 ≤ a1 then (if a1 < (t105.length : Int) then (impl_Net_toward.l0 k (t105.set (a1 : Int).toNat (⟨0, 0⟩ : S135)) true a0_0 l0_1) else (none)) else (none))
set_option maxHeartbeats 8000000 in
set_option maxRecDepth 100000 in
theorem impl_Net_toward.calls (k : Nat) (a0_0 : Int) (A0_1 : Option Addr) (c0_1 : Nat) (l0_1 : List (S33)) (a1 : Int) (r : List (S135)) (w : World) (hr0_1 : Kd.C k33 w A0_1 l0_1.length l0_1) (hc0_1 : l0_1.length ≤ c0_1) (h : impl_Net_toward.f k a0_0 l0_1 a1 = some r) :
  Calls Try.prog 163 #[.agg #[.int .i64 a0_0, .slice A0_1 l0_1.length c0_1], .int .i64 a1] w fun e w' => ∃ v0_ : Value, e = .returned (v0_) ∧ Kd.R k135 135 w' w.heap.size (fun _ => True) v0_ r ∧ Below w.heap.size w w' := by
 have hu25 := Try.underlying25
 have hu135 := Try.underlying135
 have hu33 := Try.underlying33
 have HR0_1 := Aside0.mk hr0_1
 have HC0_1 := Aside0.mk hc0_1
 clear hr0_1 hc0_1
 have HB := Aside0.mk (Below.refl w.heap.size w)
 have H : ((slices_Repeat_measure.f (([(⟨99999, 0⟩ : S135)] : List (S135))) a0_0).bind fun t105 => (if 0 ≤ a1 then (if a1 < (t105.length : Int) then (impl_Net_toward.l0 k (t105.set (a1 : Int).toNat (⟨0, 0⟩ : S135)) true a0_0 l0_1) else (none)) else (none))) = some r := h
 clear h
 obtain ⟨y102, hy102⟩ : ∃ y_ : List (S135), y_ = (([(⟨99999, 0⟩ : S135)] : List (S135))) := ⟨_, rfl⟩
 replace H : ((slices_Repeat_measure.f y102 a0_0).bind fun t105 => (if 0 ≤ a1 then (if a1 < (t105.length : Int) then (impl_Net_toward.l0 k (t105.set (a1 : Int).toNat (⟨0, 0⟩ : S135)) true a0_0 l0_1) else (none)) else (none))) = some r := by first | (rw [hy102]; with_reducible exact H) | (have H2_ := (Option.bind_some _ _).symm.trans H; rw [hy102]; with_reducible exact H2_) | (have H2_ := (Option.bind_some _ _).symm.trans H; with_reducible exact H2_) | with_reducible exact H | (rw [hy102]; exact H) | exact H
 have Ny102 := Aside0.mk hy102
 clear hy102
 replace H := Option.bind_eq_some_iff.mp H
 obtain ⟨t105, A30, H⟩ := H
 replace H : (if 0 ≤ a1 then (if a1 < (t105.length : Int) then (impl_Net_toward.l0 k (t105.set (a1 : Int).toNat (⟨0, 0⟩ : S135)) true a0_0 l0_1) else (none)) else (none)) = some r := H
 have A3 := Aside0.mk A30
 clear A30
 by_cases c4 : 0 ≤ a1
 ·
  rw [if_pos c4] at H
  have c4b0 : decide (0 ≤ a1) = true := decide_eq_true c4
  clear c4
  by_cases c5 : a1 < (t105.length : Int)
  ·
   rw [if_pos c5] at H
   have c5b0 : decide (a1 < (t105.length : Int)) = true := decide_eq_true c5
   clear c5
   obtain ⟨y108, hy108⟩ : ∃ y_ : List (S135), y_ = (t105.set (a1 : Int).toNat (⟨0, 0⟩ : S135)) := ⟨_, rfl⟩
   replace H : (impl_Net_toward.l0 k y108 true a0_0 l0_1) = some r := by first | (rw [hy108]; with_reducible exact H) | (have H2_ := (Option.bind_some _ _).symm.trans H; rw [hy108]; with_reducible exact H2_) | (have H2_ := (Option.bind_some _ _).symm.trans H; with_reducible exact H2_) | with_reducible exact H | (rw [hy108]; exact H) | exact H
   have Ny108 := Aside0.mk hy108
   clear hy108
   have H' := Aside0.mk H
   clear H
   go_enter Try.func163, Try.ntmps163
   go_wp2_with (first | ((with_reducible refine gate_dst (N := 2) rfl ?_); refine box_event ?hg (N := 2) ?hd (cs := #[.int .i64 a0_0, .slice A0_1 l0_1.length c0_1]) (t := 25) ?hr ?_; (case hd => rfl); (case hg => rfl); (case hr => first | (go_simp; done) | (go_simp; rfl)); intro gb101 hg w7 hbox hb; have n0_ := Aside0.mk (below_step (uB0 HB) hb); have n1_ := Aside0.mk (hbox); have n2_ := Aside0.mk ((by rw [hg]; exact (below_size (uB0 HB)) : w.heap.size ≤ gb101)); have n3_ := Aside0.mk ((by rw [hg]; exact (below_size (uB0 HB)) : w.heap.size ≤ gb101)); clear HB; have HB := n0_; have BK101 := n1_; have GW101 := n2_; have GE101 := n3_; clear n0_ n1_ n2_ n3_; clear hb hbox hg) | ((with_reducible refine gate_dst (N := 11) rfl ?_); refine Kd.R_lit k135 _ 135 ?hg (N := 11) ?hd (xs := ([(⟨99999, 0⟩ : S135)] : List (S135))) (inner := [.int .i64 99999, .int .i64 0]) (ok := fun _ => True) (okp := fun _ => True) ?hr ?hp (fun _ hk => hk) trivial (Below.refl _ _) (Nat.le_refl _) (by simp) ?_; (case hd => rfl); (case hg => rfl); (case hr => first | (go_simp; done) | (go_simp; rfl)); (case hp => exact (Reps.c2 (show Kd.M k135 _ _ _ (⟨99999, 0⟩ : S135) [.int .i64 99999, .int .i64 0] from (k135_mkM _ _ _ (⟨99999, 0⟩ : S135) )) (Reps.none _ _))); intro v103 w8 ho9 hb hg_ hnew_; clear hg_ hnew_; (first | rw [← Ny102.out] at ho9 | (simp only [Int.reduceToNat] at ho9; rw [← Ny102.out] at ho9)); have n0_ := Aside0.mk (Kd.R_lower ho9 (below_size (uB1 HB GE101.out))); have n1_ := Aside0.mk (blk_below (g := gb101) (o := .cells #[.int .i64 a0_0, .slice A0_1 l0_1.length c0_1] 25 (0, 0)) (ub BK101) hb); have n2_ := Aside0.mk (below_step (uB1 HB GE101.out) hb); clear BK101; clear HB; have HO104 := n0_; have BK101 := n1_; have HB := n2_; clear n0_ n1_ n2_; clear hb ho9; have hcz10_0 : w8.cell? ⟨gb101, 0, none⟩ = some (.int .i64 a0_0) := (blk_cell BK101.out 0).trans rfl; have hcz10_1 : w8.cell? ⟨gb101, 1, none⟩ = some (.slice A0_1 l0_1.length c0_1) := (blk_cell BK101.out 1).trans rfl; have hfz10_0 := blk_frozen BK101.out 0; have hfz10_1 := blk_frozen BK101.out 1; obtain ⟨Ao11, co11, eo11⟩ := Kd.R_slice HO104.out; subst eo11) | ((with_reducible refine gate_callee (f := 172) rfl ?_); refine goesL_ (some 14) rfl rfl Try.func172 (by kernel_rfl) rfl #[.slice Ao11 y102.length co11, .int .i64 a0_0] rfl ul ?_; (with_reducible refine (slices_Repeat_measure.calls _ _ y102 a0_0 t105 _ ?side1 ?side2 A3.out).mono ?_); (case side1 => repeat (first | exact (Kd.R_reads' HO104.out).2.2 | (with_reducible refine Kd.C_alloc ?_ _) | (with_reducible refine Kd.C_drewN ?_ _) | (with_reducible refine Kd.C_drew ?_))); (case side2 => exact (Kd.R_reads' HO104.out).2.1); rintro e w12 ⟨v106, rfl, ho0, hb⟩; refine ⟨_, rfl, ?_⟩; have n0_ := Aside0.mk (Kd.R_elder' (ur HO104) (Kd.R_base ho0) hb); have n1_ := Aside0.mk (Kd.R_lower (Kd.R_new' ho0 (Kd.R_lt (ur HO104))) (below_size (uB1 HB GE101.out))); have n2_ := Aside0.mk (blk_below (g := gb101) (o := .cells #[.int .i64 a0_0, .slice A0_1 l0_1.length c0_1] 25 (0, 0)) (ub BK101) hb); have n3_ := Aside0.mk (below_step (uB1 HB GE101.out) hb); clear HO104; clear BK101; clear HB; have HO104 := n0_; have HO107 := n1_; have BK101 := n2_; have HB := n3_; clear n0_ n1_ n2_ n3_; (try clear hb); (try clear hb2); (try clear hk); (try clear hi); (try clear ho0); have p6 : 0 ≤ (a1 : Int) := ua; have q6 : (a1 : Int) < ((t105.length : Int) : Int) := ua; obtain ⟨go6, co6, eo6, gb6, gl6, cl6, HG6⟩ := Kd.R_form HO107.out (by omega); (first | cases eo6 | (injection eo6 with ea_ en_ ec_; (first | subst ea_ | (injection ea_ with ea_; subst ea_)); subst ec_; clear en_)); have GB6 := Aside0.mk gb6; have GG6 := Aside0.mk HG6; clear gb6 gl6 HG6; obtain ⟨ce6, hcl6, hM6, hcc6, hfr6⟩ := Kd.R_elem HO107.out z135 (a1 : Int) p6 q6; obtain rfl := k135_openM hM6; have hx6_0 : w12.cell? ⟨go6, (a1 : Int).toNat * 2, none⟩ = some (.int .i64 ((rd_T135 t105 a1).f0)) := hcc6 0 _ rfl; have hx6_1 : w12.cell? ⟨go6, (a1 : Int).toNat * 2 + 1, none⟩ = some (.int .i64 ((rd_T135 t105 a1).f1)) := hcc6 1 _ rfl; have hf6_0 : w12.frozen? ⟨go6, (a1 : Int).toNat * 2, none⟩ = false := hfr6 0; have hf6_1 : w12.frozen? ⟨go6, (a1 : Int).toNat * 2 + 1, none⟩ = false := hfr6 1; clear hcl6 hcc6 hfr6 hM6; replace p6 := eq_true p6; replace q6 := eq_true q6; have n_ := Aside0.mk (Kd.R_mono (ok' := (fun k_ => some k_ ≠ (.slice Ao11 y102.length co11 : Value).ownBlock)) HO107.out (fun k_ hk => hk.2)); clear HO107; have HO107 := n_; clear n_; have HX13 := Aside0.mk (show Kd.R k135 135 w12 w.heap.size (fun k_ => some k_ ≠ (.slice Ao11 y102.length co11 : Value).ownBlock) (.slice (some ⟨go6, 0, none⟩) t105.length co6) t105 from (ur HO107)); obtain ⟨ce13, hcl13, hM13, hcc13, hfr13⟩ := Kd.R_elem HX13.out z135 (a1 : Int) (ua) (by have h_ : (a1 : Int) < ((t105.length : Int) : Int) := ua; first | exact h_ | (have e_ := (Kd.R_reads' HO107.out).1; omega) | simpa using h_); obtain rfl := k135_openM hM13; have HP13 := Kd.R_seg HX13.out (a1 : Int) (ua) (by have h_ : (a1 : Int) < ((t105.length : Int) : Int) := ua; first | exact h_ | (have e_ := (Kd.R_reads' HO107.out).1; omega) | simpa using h_) (seg := [.int .i64 0, .int .i64 0]) (j := 0) hcl13 hcc13 (show 2 ≤ 2 from by decide) (x' := (⟨0, 0⟩ : S135)) (k135_mkM _ _ _ (⟨0, 0⟩ : S135) ) (fun _ hk => hk); have hx13_0 := hcc13 0 _ rfl; (try simp only [show (k135).sz = 2 from rfl, Nat.mul_one, Nat.add_zero] at hx13_0); have hf13_0 := hfr13 0; (try simp only [show (k135).sz = 2 from rfl, Nat.mul_one, Nat.add_zero] at hf13_0); have hx13_1 := hcc13 1 _ rfl; (try simp only [show (k135).sz = 2 from rfl, Nat.mul_one, Nat.add_zero] at hx13_1); have hf13_1 := hfr13 1; (try simp only [show (k135).sz = 2 from rfl, Nat.mul_one, Nat.add_zero] at hf13_1); clear hcl13 hcc13 hfr13 hM13) | ((with_reducible refine gate_store (t := 135) (p := 18) rfl ?_); refine store_event (t := 135) (p := 18) (v := ?vo_w14) (w1 := ((w12.setCell ⟨go6, (a1 : Int).toNat * 2, none⟩ (.int .i64 0)).setCell ⟨go6, (a1 : Int).toNat * 2 + 1, none⟩ (.int .i64 0))) ?hg ?ho ?hn ?hr ?_; (case ho => rfl); (case hg => rfl); (case hn => rfl); (case hr => first | (go_simp; done) | (go_simp; rfl)); intro w14 hw; have hg : w12.grownBy w14 (some go6) := (by rw [hw]; exact HP13.2); have hp_ : Kd.R k135 135 w14 w.heap.size (fun k_ => some k_ ≠ (.slice Ao11 y102.length co11 : Value).ownBlock) (.slice (some ⟨go6, 0, none⟩) t105.length co6) y108 := (by rw [hw, Ny108.out]; exact HP13.1); clear HP13; have n0_ := Aside0.mk (blk_grown (g := gb101) (o := .cells #[.int .i64 a0_0, .slice A0_1 l0_1.length c0_1] 25 (0, 0)) (ub BK101) hg (Kd.R_ne HO107.out BK101.out (by decide))); have n1_ := Aside0.mk (Kd.R_after (v := (.slice (some ⟨go6, 0, none⟩) t105.length co6)) (v1 := (.slice (some ⟨go6, 0, none⟩) t105.length co6)) (ok := (fun _ => True)) (ur HO104) hg (.inl rfl)); have n2_ := Aside0.mk (hp_); have n3_ := Aside0.mk ((by rw [hw]; exact below_set (below_set (HB.out) GB6.out) GB6.out : Below w.heap.size w w14)); clear BK101; clear HO104; clear HO107; clear HB; have BK101 := n0_; have HO104 := n1_; have HO107 := n2_; have HB := n3_; clear n0_ n1_ n2_ n3_; clear hg hw hp_))
   go_loopg [6] k (fun kq v6 w' => ∃ (x5_1 : List (S135)) (x6_1 : Bool), v6 = .bool x6_1 ∧ Aside0 (impl_Net_toward.l0 kq x5_1 x6_1 a0_0 l0_1 = some r) ∧ Aside0 (kq ≤ k) ∧ Aside0 (Kd.R k135 135 w' w.heap.size (fun _ => True) (.slice (some ⟨go6, 0, none⟩) t105.length co6) x5_1) ∧ Aside0 (w'.heap[gb101]? = some (.cells #[.int .i64 a0_0, (.slice A0_1 l0_1.length c0_1)] 25 (0, 0))) ∧ Aside0 (Below w.heap.size w w'))
   case atStart => exact ⟨(y108), (true), ue, H', ⟨Nat.le_refl _⟩, ⟨by (with_reducible repeat (first | apply Kd.R_alloc | apply Kd.R_drewN | apply Kd.R_drew)); exact Kd.R_mono HO107.out (fun _ hk => trivial)⟩, ⟨ub BK101⟩, ⟨uB1 HB GE101.out⟩⟩
   case round =>
    clear H'
    try clear c1
    try clear hx1
    try clear c2
    try clear p2
    try clear c4
    try clear c4b0
    try clear c5
    try clear c5b0
    try clear c6
    try clear p6
    try clear q6
    try clear hx6
    try clear hf6
    try clear c13
    try clear hx13
    try clear hf13
    try clear hcz10_0
    try clear hcz10_1
    try clear hfz10_0
    try clear hfz10_1
    try clear hx13_0
    try clear hx13_1
    try clear hx6_0
    try clear hx6_1
    try clear p6
    try clear q6
    obtain ⟨x5_1, x6_1, rfl, HA, HK1, HO_5, BK101, HB⟩ := hrel
    have hl5_1 := (Kd.R_reads' HO_5.out).1
    rw [hl5_1] at HO_5
    (try simp only [hl5_1])
    (try simp only [hl5_1] at BK101)
    cases gk with
    | zero => exact absurd HA.out (by simp [impl_Net_toward.l0])
    | succ k1 =>
     have H := HA.out
     clear HA
     simp only [impl_Net_toward.l0] at H
     by_cases c15 : x6_1 = true
     ·
      subst c15
      have H1 : (impl_Net_toward.l1 k1 x5_1 false l0_1 (l0_1.length : Int) 0 a0_0 l0_1) = some r := by rw [if_pos rfl] at H; exact H
      clear H
      have H := H1
      clear H1
      have H' := Aside0.mk H
      clear H
      have hcz16_0 : wr.cell? ⟨gb101, 0, none⟩ = some (.int .i64 a0_0) := (blk_cell BK101.out 0).trans rfl
      have hcz16_1 : wr.cell? ⟨gb101, 1, none⟩ = some (.slice A0_1 l0_1.length c0_1) := (blk_cell BK101.out 1).trans rfl
      have hfz16_0 := blk_frozen BK101.out 0
      have hfz16_1 := blk_frozen BK101.out 1
      go_wp2
      go_loopg [6, 23] k1 (fun kq v6 v23 w' => ∃ (x5_2 : List (S135)) (x6_2 : Bool) (x23_2 : Int), v6 = .bool x6_2 ∧ v23 = .int .i64 x23_2 ∧ Aside0 (impl_Net_toward.l1 kq x5_2 x6_2 l0_1 (l0_1.length : Int) x23_2 a0_0 l0_1 = some r) ∧ Aside0 (kq ≤ k1) ∧ Aside0 (Kd.R k135 135 w' w.heap.size (fun _ => True) (.slice (some ⟨go6, 0, none⟩) x5_1.length co6) x5_2) ∧ Aside0 (w'.heap[gb101]? = some (.cells #[.int .i64 a0_0, (.slice A0_1 l0_1.length c0_1)] 25 (0, 0))) ∧ Aside0 (Below w.heap.size w w'))
      case atStart => exact ⟨(x5_1), (false), (0), ue, ue, H', ⟨Nat.le_refl _⟩, ⟨by (try simp only [hl5_1]); exact ur HO_5⟩, ⟨by (try simp only [hl5_1]); exact ub BK101⟩, ⟨uB1 HB GE101.out⟩⟩
      case round =>
       clear H'
       try clear c1
       try clear hx1
       try clear c2
       try clear p2
       try clear c4
       try clear c4b0
       try clear c5
       try clear c5b0
       try clear c6
       try clear p6
       try clear q6
       try clear hx6
       try clear hf6
       try clear c13
       try clear hx13
       try clear hf13
       try clear c15
       try clear c16
       try clear hcz10_0
       try clear hcz10_1
       try clear hcz16_0
       try clear hcz16_1
       try clear hfz10_0
       try clear hfz10_1
       try clear hfz16_0
       try clear hfz16_1
       try clear hx13_0
       try clear hx13_1
       try clear hx6_0
       try clear hx6_1
       try clear p2
       try clear p6
       try clear q6
       obtain ⟨x5_2, x6_2, x23_2, rfl, rfl, HA, HK2, HO_5, BK101, HB⟩ := hrel
       have hl5_2 := (Kd.R_reads' HO_5.out).1
       rw [hl5_2] at HO_5
       (try simp only [hl5_2])
       (try simp only [hl5_2] at BK101)
       cases gk with
       | zero => exact absurd HA.out (by simp [impl_Net_toward.l1])
       | succ k2 =>
        have H := HA.out
        clear HA
        simp only [impl_Net_toward.l1] at H
        by_cases c17 : x23_2 < (l0_1.length : Int)
        ·
         rw [if_pos c17] at H
         have c17b0 : decide (x23_2 < (l0_1.length : Int)) = true := decide_eq_true c17
         clear c17
         by_cases c18 : 0 ≤ x23_2
         ·
          rw [if_pos c18] at H
          have c18b0 : decide (0 ≤ x23_2) = true := decide_eq_true c18
          clear c18
          by_cases c19 : x23_2 < (l0_1.length : Int)
          ·
           rw [if_pos c19] at H
           have c19b0 : decide (x23_2 < (l0_1.length : Int)) = true := decide_eq_true c19
           clear c19
           by_cases c20 : 0 ≤ ((rd_T33 l0_1 x23_2).f1)
           ·
            rw [if_pos c20] at H
            have c20b0 : decide (0 ≤ ((rd_T33 l0_1 x23_2).f1)) = true := decide_eq_true c20
            clear c20
            by_cases c21 : ((rd_T33 l0_1 x23_2).f1) < (x5_2.length : Int)
            ·
             rw [if_pos c21] at H
             have c21b0 : decide (((rd_T33 l0_1 x23_2).f1) < (x5_2.length : Int)) = true := decide_eq_true c21
             clear c21
             have HH_ := Aside0.mk H
             clear H
             have p109 : 0 ≤ (x23_2 : Int) := ua
             have q109 : x23_2 < (l0_1.length : Int) := ua
             obtain ⟨ad109, e109, hx109_0, hx109_1, hx109_2, hx109_3, hx109_4⟩ := at_T33 HR0_1.out x23_2 p109 q109
             cases e109
             replace hx109_0 := (HB.out.cell (World.block_lt_of_cell? w _ hx109_0)).trans hx109_0
             replace hx109_1 := (HB.out.cell (World.block_lt_of_cell? w _ hx109_1)).trans hx109_1
             replace hx109_2 := (HB.out.cell (World.block_lt_of_cell? w _ hx109_2)).trans hx109_2
             replace hx109_3 := (HB.out.cell (World.block_lt_of_cell? w _ hx109_3)).trans hx109_3
             replace hx109_4 := (HB.out.cell (World.block_lt_of_cell? w _ hx109_4)).trans hx109_4
             replace p109 := eq_true p109
             replace q109 := eq_true q109
             go_upto_region 10 with (first | ((with_reducible refine gate_dst (N := 8) rfl ?_); refine box_event ?hg (N := 8) ?hd (cs := #[.int .i64 0, .int .i64 0, .int .i64 0, .int .i64 0, .int .i64 0]) (t := 33) ?hr ?_; (case hd => rfl); (case hg => rfl); (case hr => first | (go_simp; done) | (go_simp; rfl)); intro gb110 hg w22 hbox hb; have n0_ := Aside0.mk (Kd.R_below (ur HO_5) hb); have n1_ := Aside0.mk (blk_below (g := gb101) (o := .cells #[.int .i64 a0_0, .slice (some ad109) l0_1.length c0_1] 25 (0, 0)) (ub BK101) hb); have n2_ := Aside0.mk (below_step (uB1 HB GE101.out) hb); have n3_ := Aside0.mk (hbox); have n4_ := Aside0.mk ((by rw [hg]; exact (below_size (uB1 HB GE101.out)) : w.heap.size ≤ gb110)); have n5_ := Aside0.mk ((by rw [hg]; exact (below_size (uB1 HB GE101.out)) : w.heap.size ≤ gb110)); have n6_ := Aside0.mk ((by rw [hg]; exact Nat.ne_of_lt (blk_lt (g := gb101) (o := .cells #[.int .i64 a0_0, .slice (some ad109) l0_1.length c0_1] 25 (0, 0)) (ub BK101)) : gb101 ≠ gb110)); have n7_ := Aside0.mk ((by rw [hg]; exact Nat.ne_of_gt (blk_lt (g := gb101) (o := .cells #[.int .i64 a0_0, .slice (some ad109) l0_1.length c0_1] 25 (0, 0)) (ub BK101)) : gb110 ≠ gb101)); clear HO_5; clear BK101; clear HB; have HO_5 := n0_; have BK101 := n1_; have HB := n2_; have BK110 := n3_; have GW110 := n4_; have GE110 := n5_; have NB101_110 := n6_; have NB110_101 := n7_; clear n0_ n1_ n2_ n3_ n4_ n5_ n6_ n7_; clear hb hbox hg; have hnb23 := NB110_101.out; have hnc23 := NB101_110.out; have hcz24_0 : w22.cell? ⟨gb110, 0, none⟩ = some (.int .i64 0) := (blk_cell BK110.out 0).trans rfl; have hcz24_1 : w22.cell? ⟨gb110, 1, none⟩ = some (.int .i64 0) := (blk_cell BK110.out 1).trans rfl; have hcz24_2 : w22.cell? ⟨gb110, 2, none⟩ = some (.int .i64 0) := (blk_cell BK110.out 2).trans rfl; have hcz24_3 : w22.cell? ⟨gb110, 3, none⟩ = some (.int .i64 0) := (blk_cell BK110.out 3).trans rfl; have hcz24_4 : w22.cell? ⟨gb110, 4, none⟩ = some (.int .i64 0) := (blk_cell BK110.out 4).trans rfl; have hfz24_0 := blk_frozen BK110.out 0; have hfz24_1 := blk_frozen BK110.out 1; have hfz24_2 := blk_frozen BK110.out 2; have hfz24_3 := blk_frozen BK110.out 3; have hfz24_4 := blk_frozen BK110.out 4; have p111 : 0 ≤ (((rd_T33 l0_1 x23_2).f1) : Int) := ua; have q111 : ((rd_T33 l0_1 x23_2).f1) < (x5_2.length : Int) := ua; obtain ⟨ad111, e111, hx111_0, hx111_1⟩ := at_T135 (Kd.R_reads' HO_5.out).2.2 ((rd_T33 l0_1 x23_2).f1) p111 q111; obtain rfl : (⟨go6, 0, none⟩ : Addr) = ad111 := (by injection e111); (first | simp only [add_plain] at hx111_0 | simp only [add_at] at hx111_0 | simp only [Addr.add, Nat.zero_add] at hx111_0 | skip); (first | simp only [add_plain] at hx111_1 | simp only [add_at] at hx111_1 | simp only [Addr.add, Nat.zero_add] at hx111_1 | skip); have hn111_0 : (⟨go6, 0, none⟩ : Addr).block ≠ gb110 := Kd.own_blk (Kd.R_ne HO_5.out BK110.out (by decide)); have hn111_1 : (⟨go6, 0, none⟩ : Addr).block ≠ gb110 := Kd.own_blk (Kd.R_ne HO_5.out BK110.out (by decide)); have hn111_2 : (⟨go6, 0, none⟩ : Addr).block ≠ gb110 := Kd.own_blk (Kd.R_ne HO_5.out BK110.out (by decide)); have hn111_3 : (⟨go6, 0, none⟩ : Addr).block ≠ gb110 := Kd.own_blk (Kd.R_ne HO_5.out BK110.out (by decide)); have hn111_4 : (⟨go6, 0, none⟩ : Addr).block ≠ gb110 := Kd.own_blk (Kd.R_ne HO_5.out BK110.out (by decide)); replace hx111_0 := (cell_far (p := ⟨gb110, 0, none⟩) (by first | (rw [add_block]; exact hn111_0) | (show (Addr.add _ _).block ≠ _; rw [add_block]; exact hn111_0) | exact hn111_0) (.int .i64 ((rd_T33 l0_1 x23_2).f0))).trans hx111_0; replace hx111_1 := (cell_far (p := ⟨gb110, 0, none⟩) (by first | (rw [add_block]; exact hn111_0) | (show (Addr.add _ _).block ≠ _; rw [add_block]; exact hn111_0) | exact hn111_0) (.int .i64 ((rd_T33 l0_1 x23_2).f0))).trans hx111_1; replace hx111_0 := (cell_far (p := ⟨gb110, 1, none⟩) (by first | (rw [add_block]; exact hn111_1) | (show (Addr.add _ _).block ≠ _; rw [add_block]; exact hn111_1) | exact hn111_1) (.int .i64 ((rd_T33 l0_1 x23_2).f1))).trans hx111_0; replace hx111_1 := (cell_far (p := ⟨gb110, 1, none⟩) (by first | (rw [add_block]; exact hn111_1) | (show (Addr.add _ _).block ≠ _; rw [add_block]; exact hn111_1) | exact hn111_1) (.int .i64 ((rd_T33 l0_1 x23_2).f1))).trans hx111_1; replace hx111_0 := (cell_far (p := ⟨gb110, 2, none⟩) (by first | (rw [add_block]; exact hn111_2) | (show (Addr.add _ _).block ≠ _; rw [add_block]; exact hn111_2) | exact hn111_2) (.int .i64 ((rd_T33 l0_1 x23_2).f2))).trans hx111_0; replace hx111_1 := (cell_far (p := ⟨gb110, 2, none⟩) (by first | (rw [add_block]; exact hn111_2) | (show (Addr.add _ _).block ≠ _; rw [add_block]; exact hn111_2) | exact hn111_2) (.int .i64 ((rd_T33 l0_1 x23_2).f2))).trans hx111_1; replace hx111_0 := (cell_far (p := ⟨gb110, 3, none⟩) (by first | (rw [add_block]; exact hn111_3) | (show (Addr.add _ _).block ≠ _; rw [add_block]; exact hn111_3) | exact hn111_3) (.int .i64 ((rd_T33 l0_1 x23_2).f3))).trans hx111_0; replace hx111_1 := (cell_far (p := ⟨gb110, 3, none⟩) (by first | (rw [add_block]; exact hn111_3) | (show (Addr.add _ _).block ≠ _; rw [add_block]; exact hn111_3) | exact hn111_3) (.int .i64 ((rd_T33 l0_1 x23_2).f3))).trans hx111_1; replace hx111_0 := (cell_far (p := ⟨gb110, 4, none⟩) (by first | (rw [add_block]; exact hn111_4) | (show (Addr.add _ _).block ≠ _; rw [add_block]; exact hn111_4) | exact hn111_4) (.int .i64 ((rd_T33 l0_1 x23_2).f4))).trans hx111_0; replace hx111_1 := (cell_far (p := ⟨gb110, 4, none⟩) (by first | (rw [add_block]; exact hn111_4) | (show (Addr.add _ _).block ≠ _; rw [add_block]; exact hn111_4) | exact hn111_4) (.int .i64 ((rd_T33 l0_1 x23_2).f4))).trans hx111_1; clear hn111_0; clear hn111_1; clear hn111_2; clear hn111_3; clear hn111_4; replace p111 := eq_true p111; replace q111 := eq_true q111) | ((with_reducible refine gate_dst (N := 9) rfl ?_); refine box_event ?hg (N := 9) ?hd (cs := #[.int .i64 0, .int .i64 0]) (t := 135) ?hr ?_; (case hd => rfl); (case hg => rfl); (case hr => first | (go_simp; done) | (go_simp; rfl)); intro gb112 hg w25 hbox hb; have n0_ := Aside0.mk (Kd.R_below (Kd.R_elderB (by (with_reducible repeat (first | apply Kd.R_alloc | apply Kd.R_drewN | apply Kd.R_drew)); exact (Kd.R_mono (Kd.R_far (p := ⟨gb110, 4, none⟩) (Kd.R_far (p := ⟨gb110, 3, none⟩) (Kd.R_far (p := ⟨gb110, 2, none⟩) (Kd.R_far (p := ⟨gb110, 1, none⟩) (Kd.R_far (p := ⟨gb110, 0, none⟩) (Kd.R_types HO_5.out BK110.out (by decide)) (fun _ hk => hk.2) (.int .i64 ((rd_T33 l0_1 x23_2).f0))) (fun _ hk => hk.2) (.int .i64 ((rd_T33 l0_1 x23_2).f1))) (fun _ hk => hk.2) (.int .i64 ((rd_T33 l0_1 x23_2).f2))) (fun _ hk => hk.2) (.int .i64 ((rd_T33 l0_1 x23_2).f3))) (fun _ hk => hk.2) (.int .i64 ((rd_T33 l0_1 x23_2).f4))) (fun _ h_ => h_.1))) gb112 (Nat.le_of_eq hg.symm)) hb); have n1_ := Aside0.mk (blk_below (g := gb101) (o := .cells #[.int .i64 a0_0, .slice (some ad109) l0_1.length c0_1] 25 (0, 0)) (by (with_reducible repeat (first | refine blk_drewN ?_ _ | refine blk_drew ?_ | refine blk_alloc ?_ _)); refine blk_far ?_ NB101_110.out _; (with_reducible repeat (first | refine blk_drewN ?_ _ | refine blk_drew ?_ | refine blk_alloc ?_ _)); refine blk_far ?_ NB101_110.out _; (with_reducible repeat (first | refine blk_drewN ?_ _ | refine blk_drew ?_ | refine blk_alloc ?_ _)); refine blk_far ?_ NB101_110.out _; (with_reducible repeat (first | refine blk_drewN ?_ _ | refine blk_drew ?_ | refine blk_alloc ?_ _)); refine blk_far ?_ NB101_110.out _; (with_reducible repeat (first | refine blk_drewN ?_ _ | refine blk_drew ?_ | refine blk_alloc ?_ _)); refine blk_far ?_ NB101_110.out _; exact ub BK101) hb); have n2_ := Aside0.mk (blk_below (g := gb110) (o := .cells #[.int .i64 ((rd_T33 l0_1 x23_2).f0), .int .i64 ((rd_T33 l0_1 x23_2).f1), .int .i64 ((rd_T33 l0_1 x23_2).f2), .int .i64 ((rd_T33 l0_1 x23_2).f3), .int .i64 ((rd_T33 l0_1 x23_2).f4)] 33 (0, 0)) (by (with_reducible repeat (first | refine blk_drewN ?_ _ | refine blk_drew ?_ | refine blk_alloc ?_ _)); refine blk_put (cs := #[.int .i64 ((rd_T33 l0_1 x23_2).f0), .int .i64 ((rd_T33 l0_1 x23_2).f1), .int .i64 ((rd_T33 l0_1 x23_2).f2), .int .i64 ((rd_T33 l0_1 x23_2).f3), .int .i64 0]) ?_ 4 _ rfl; (with_reducible repeat (first | refine blk_drewN ?_ _ | refine blk_drew ?_ | refine blk_alloc ?_ _)); refine blk_put (cs := #[.int .i64 ((rd_T33 l0_1 x23_2).f0), .int .i64 ((rd_T33 l0_1 x23_2).f1), .int .i64 ((rd_T33 l0_1 x23_2).f2), .int .i64 0, .int .i64 0]) ?_ 3 _ rfl; (with_reducible repeat (first | refine blk_drewN ?_ _ | refine blk_drew ?_ | refine blk_alloc ?_ _)); refine blk_put (cs := #[.int .i64 ((rd_T33 l0_1 x23_2).f0), .int .i64 ((rd_T33 l0_1 x23_2).f1), .int .i64 0, .int .i64 0, .int .i64 0]) ?_ 2 _ rfl; (with_reducible repeat (first | refine blk_drewN ?_ _ | refine blk_drew ?_ | refine blk_alloc ?_ _)); refine blk_put (cs := #[.int .i64 ((rd_T33 l0_1 x23_2).f0), .int .i64 0, .int .i64 0, .int .i64 0, .int .i64 0]) ?_ 1 _ rfl; (with_reducible repeat (first | refine blk_drewN ?_ _ | refine blk_drew ?_ | refine blk_alloc ?_ _)); refine blk_put (cs := #[.int .i64 0, .int .i64 0, .int .i64 0, .int .i64 0, .int .i64 0]) ?_ 0 _ rfl; exact ub BK110) hb); have n3_ := Aside0.mk (below_step (uB2 HB GE101.out GE110.out) hb); have n4_ := Aside0.mk (hbox); have n5_ := Aside0.mk ((by rw [hg]; exact (below_size (uB2 HB GE101.out GE110.out)) : w.heap.size ≤ gb112)); have n6_ := Aside0.mk ((by rw [hg]; exact (below_size (uB2 HB GE101.out GE110.out)) : w.heap.size ≤ gb112)); have n7_ := Aside0.mk ((by rw [hg]; exact Nat.ne_of_lt (blk_lt (g := gb101) (o := .cells #[.int .i64 a0_0, .slice (some ad109) l0_1.length c0_1] 25 (0, 0)) (by (with_reducible repeat (first | refine blk_drewN ?_ _ | refine blk_drew ?_ | refine blk_alloc ?_ _)); refine blk_far ?_ NB101_110.out _; (with_reducible repeat (first | refine blk_drewN ?_ _ | refine blk_drew ?_ | refine blk_alloc ?_ _)); refine blk_far ?_ NB101_110.out _; (with_reducible repeat (first | refine blk_drewN ?_ _ | refine blk_drew ?_ | refine blk_alloc ?_ _)); refine blk_far ?_ NB101_110.out _; (with_reducible repeat (first | refine blk_drewN ?_ _ | refine blk_drew ?_ | refine blk_alloc ?_ _)); refine blk_far ?_ NB101_110.out _; (with_reducible repeat (first | refine blk_drewN ?_ _ | refine blk_drew ?_ | refine blk_alloc ?_ _)); refine blk_far ?_ NB101_110.out _; exact ub BK101)) : gb101 ≠ gb112)); have n8_ := Aside0.mk ((by rw [hg]; exact Nat.ne_of_gt (blk_lt (g := gb101) (o := .cells #[.int .i64 a0_0, .slice (some ad109) l0_1.length c0_1] 25 (0, 0)) (by (with_reducible repeat (first | refine blk_drewN ?_ _ | refine blk_drew ?_ | refine blk_alloc ?_ _)); refine blk_far ?_ NB101_110.out _; (with_reducible repeat (first | refine blk_drewN ?_ _ | refine blk_drew ?_ | refine blk_alloc ?_ _)); refine blk_far ?_ NB101_110.out _; (with_reducible repeat (first | refine blk_drewN ?_ _ | refine blk_drew ?_ | refine blk_alloc ?_ _)); refine blk_far ?_ NB101_110.out _; (with_reducible repeat (first | refine blk_drewN ?_ _ | refine blk_drew ?_ | refine blk_alloc ?_ _)); refine blk_far ?_ NB101_110.out _; (with_reducible repeat (first | refine blk_drewN ?_ _ | refine blk_drew ?_ | refine blk_alloc ?_ _)); refine blk_far ?_ NB101_110.out _; exact ub BK101)) : gb112 ≠ gb101)); have n9_ := Aside0.mk ((by rw [hg]; exact Nat.ne_of_lt (blk_lt (g := gb110) (o := .cells #[.int .i64 ((rd_T33 l0_1 x23_2).f0), .int .i64 ((rd_T33 l0_1 x23_2).f1), .int .i64 ((rd_T33 l0_1 x23_2).f2), .int .i64 ((rd_T33 l0_1 x23_2).f3), .int .i64 ((rd_T33 l0_1 x23_2).f4)] 33 (0, 0)) (by (with_reducible repeat (first | refine blk_drewN ?_ _ | refine blk_drew ?_ | refine blk_alloc ?_ _)); refine blk_put (cs := #[.int .i64 ((rd_T33 l0_1 x23_2).f0), .int .i64 ((rd_T33 l0_1 x23_2).f1), .int .i64 ((rd_T33 l0_1 x23_2).f2), .int .i64 ((rd_T33 l0_1 x23_2).f3), .int .i64 0]) ?_ 4 _ rfl; (with_reducible repeat (first | refine blk_drewN ?_ _ | refine blk_drew ?_ | refine blk_alloc ?_ _)); refine blk_put (cs := #[.int .i64 ((rd_T33 l0_1 x23_2).f0), .int .i64 ((rd_T33 l0_1 x23_2).f1), .int .i64 ((rd_T33 l0_1 x23_2).f2), .int .i64 0, .int .i64 0]) ?_ 3 _ rfl; (with_reducible repeat (first | refine blk_drewN ?_ _ | refine blk_drew ?_ | refine blk_alloc ?_ _)); refine blk_put (cs := #[.int .i64 ((rd_T33 l0_1 x23_2).f0), .int .i64 ((rd_T33 l0_1 x23_2).f1), .int .i64 0, .int .i64 0, .int .i64 0]) ?_ 2 _ rfl; (with_reducible repeat (first | refine blk_drewN ?_ _ | refine blk_drew ?_ | refine blk_alloc ?_ _)); refine blk_put (cs := #[.int .i64 ((rd_T33 l0_1 x23_2).f0), .int .i64 0, .int .i64 0, .int .i64 0, .int .i64 0]) ?_ 1 _ rfl; (with_reducible repeat (first | refine blk_drewN ?_ _ | refine blk_drew ?_ | refine blk_alloc ?_ _)); refine blk_put (cs := #[.int .i64 0, .int .i64 0, .int .i64 0, .int .i64 0, .int .i64 0]) ?_ 0 _ rfl; exact ub BK110)) : gb110 ≠ gb112)); have n10_ := Aside0.mk ((by rw [hg]; exact Nat.ne_of_gt (blk_lt (g := gb110) (o := .cells #[.int .i64 ((rd_T33 l0_1 x23_2).f0), .int .i64 ((rd_T33 l0_1 x23_2).f1), .int .i64 ((rd_T33 l0_1 x23_2).f2), .int .i64 ((rd_T33 l0_1 x23_2).f3), .int .i64 ((rd_T33 l0_1 x23_2).f4)] 33 (0, 0)) (by (with_reducible repeat (first | refine blk_drewN ?_ _ | refine blk_drew ?_ | refine blk_alloc ?_ _)); refine blk_put (cs := #[.int .i64 ((rd_T33 l0_1 x23_2).f0), .int .i64 ((rd_T33 l0_1 x23_2).f1), .int .i64 ((rd_T33 l0_1 x23_2).f2), .int .i64 ((rd_T33 l0_1 x23_2).f3), .int .i64 0]) ?_ 4 _ rfl; (with_reducible repeat (first | refine blk_drewN ?_ _ | refine blk_drew ?_ | refine blk_alloc ?_ _)); refine blk_put (cs := #[.int .i64 ((rd_T33 l0_1 x23_2).f0), .int .i64 ((rd_T33 l0_1 x23_2).f1), .int .i64 ((rd_T33 l0_1 x23_2).f2), .int .i64 0, .int .i64 0]) ?_ 3 _ rfl; (with_reducible repeat (first | refine blk_drewN ?_ _ | refine blk_drew ?_ | refine blk_alloc ?_ _)); refine blk_put (cs := #[.int .i64 ((rd_T33 l0_1 x23_2).f0), .int .i64 ((rd_T33 l0_1 x23_2).f1), .int .i64 0, .int .i64 0, .int .i64 0]) ?_ 2 _ rfl; (with_reducible repeat (first | refine blk_drewN ?_ _ | refine blk_drew ?_ | refine blk_alloc ?_ _)); refine blk_put (cs := #[.int .i64 ((rd_T33 l0_1 x23_2).f0), .int .i64 0, .int .i64 0, .int .i64 0, .int .i64 0]) ?_ 1 _ rfl; (with_reducible repeat (first | refine blk_drewN ?_ _ | refine blk_drew ?_ | refine blk_alloc ?_ _)); refine blk_put (cs := #[.int .i64 0, .int .i64 0, .int .i64 0, .int .i64 0, .int .i64 0]) ?_ 0 _ rfl; exact ub BK110)) : gb112 ≠ gb110)); clear HO_5; clear BK101; clear BK110; clear HB; have HO_5 := n0_; have BK101 := n1_; have BK110 := n2_; have HB := n3_; have BK112 := n4_; have GW112 := n5_; have GE112 := n6_; have NB101_112 := n7_; have NB112_101 := n8_; have NB110_112 := n9_; have NB112_110 := n10_; clear n0_ n1_ n2_ n3_ n4_ n5_ n6_ n7_ n8_ n9_ n10_; clear hb hbox hg; have hnb26 := NB112_101.out; have hnc26 := NB101_112.out; have hnb27 := NB112_110.out; have hnc27 := NB110_112.out; have hcz28_0 : w25.cell? ⟨gb112, 0, none⟩ = some (.int .i64 0) := (blk_cell BK112.out 0).trans rfl; have hcz28_1 : w25.cell? ⟨gb112, 1, none⟩ = some (.int .i64 0) := (blk_cell BK112.out 1).trans rfl; have hfz28_0 := blk_frozen BK112.out 0; have hfz28_1 := blk_frozen BK112.out 1))
             have H := HH_.out
             clear HH_
             by_cases c29 : ((rd_T135 x5_2 ((rd_T33 l0_1 x23_2).f1)).f0) = 99999
             ·
              rw [if_pos c29] at H
              have c29b0 : (((rd_T135 x5_2 ((rd_T33 l0_1 x23_2).f1)).f0) == 99999) = true := beq_iff_eq.mpr c29
              have c29b1 : (((rd_T135 x5_2 ((rd_T33 l0_1 x23_2).f1)).f0) != 99999) = false := bne_eq_false_iff_eq.mpr c29
              clear c29
              have H' := Aside0.mk H
              clear H
              go_wp2
              (try simp only [← hl5_2])
              go_roundg k2
              case measure => have := HK1.out; have := HK2.out; omega
              case rel => exact ⟨(x5_2), (x6_2), (wrap64 (x23_2 + 1)), ue, ue, H', ⟨by have := HK1.out; have := HK2.out; omega⟩, ⟨by (try simp only [hl5_1]); (try simp only [hl5_2]); (with_reducible repeat (first | apply Kd.R_alloc | apply Kd.R_drewN | apply Kd.R_drew)); exact Kd.R_mono (Kd.R_far (p := ⟨gb112, 1, none⟩) (Kd.R_far (p := ⟨gb112, 0, none⟩) (Kd.R_mono HO_5.out (fun k_ hk => (⟨hk, hk.2⟩ : _ ∧ k_ ≠ gb112))) (fun _ hk => hk.2) (.int .i64 ((rd_T135 x5_2 ((rd_T33 l0_1 x23_2).f1)).f0))) (fun _ hk => hk.2) (.int .i64 ((rd_T135 x5_2 ((rd_T33 l0_1 x23_2).f1)).f1))) (fun _ hk => trivial)⟩, ⟨by (try simp only [hl5_1]); (try simp only [hl5_2]); (with_reducible repeat (first | refine blk_drewN ?_ _ | refine blk_drew ?_ | refine blk_alloc ?_ _)); refine blk_far ?_ NB101_112.out _; (with_reducible repeat (first | refine blk_drewN ?_ _ | refine blk_drew ?_ | refine blk_alloc ?_ _)); refine blk_far ?_ NB101_112.out _; exact ub BK101⟩, ⟨uB3 HB GE101.out GE110.out GE112.out⟩⟩
             ·
              rw [if_neg c29] at H
              have c29b0 : (((rd_T135 x5_2 ((rd_T33 l0_1 x23_2).f1)).f0) == 99999) = false := beq_eq_false_iff_ne.mpr c29
              have c29b1 : (((rd_T135 x5_2 ((rd_T33 l0_1 x23_2).f1)).f0) != 99999) = true := bne_iff_ne.mpr c29
              by_cases c30 : 0 ≤ ((rd_T33 l0_1 x23_2).f0)
              ·
               rw [if_pos c30] at H
               have c30b0 : decide (0 ≤ ((rd_T33 l0_1 x23_2).f0)) = true := decide_eq_true c30
               clear c30
               by_cases c31 : ((rd_T33 l0_1 x23_2).f0) < (x5_2.length : Int)
               ·
                rw [if_pos c31] at H
                have c31b0 : decide (((rd_T33 l0_1 x23_2).f0) < (x5_2.length : Int)) = true := decide_eq_true c31
                clear c31
                replace H := Option.bind_eq_some_iff.mp H
                obtain ⟨t114, A320, H⟩ := H
                replace H : (if t114 = true then (impl_Net_toward.l1 k2 (x5_2.set (((rd_T33 l0_1 x23_2).f0) : Int).toNat (⟨wrap64 (((rd_T135 x5_2 ((rd_T33 l0_1 x23_2).f1)).f0) + ((rd_T33 l0_1 x23_2).f2)), wrap64 (((rd_T135 x5_2 ((rd_T33 l0_1 x23_2).f1)).f1) + 1)⟩ : S135)) true l0_1 (l0_1.length : Int) (wrap64 (x23_2 + 1)) a0_0 l0_1) else (impl_Net_toward.l1 k2 x5_2 x6_2 l0_1 (l0_1.length : Int) (wrap64 (x23_2 + 1)) a0_0 l0_1)) = some r := H
                have A32 := Aside0.mk A320
                clear A320
                by_cases c33 : t114 = true
                ·
                 subst c33
                 have H1 : (impl_Net_toward.l1 k2 (x5_2.set (((rd_T33 l0_1 x23_2).f0) : Int).toNat (⟨wrap64 (((rd_T135 x5_2 ((rd_T33 l0_1 x23_2).f1)).f0) + ((rd_T33 l0_1 x23_2).f2)), wrap64 (((rd_T135 x5_2 ((rd_T33 l0_1 x23_2).f1)).f1) + 1)⟩ : S135)) true l0_1 (l0_1.length : Int) (wrap64 (x23_2 + 1)) a0_0 l0_1) = some r := by rw [if_pos rfl] at H; exact H
                 clear H
                 have H := H1
                 clear H1
                 obtain ⟨y115, hy115⟩ : ∃ y_ : List (S135), y_ = (x5_2.set (((rd_T33 l0_1 x23_2).f0) : Int).toNat (⟨wrap64 (((rd_T135 x5_2 ((rd_T33 l0_1 x23_2).f1)).f0) + ((rd_T33 l0_1 x23_2).f2)), wrap64 (((rd_T135 x5_2 ((rd_T33 l0_1 x23_2).f1)).f1) + 1)⟩ : S135)) := ⟨_, rfl⟩
                 replace H : (impl_Net_toward.l1 k2 y115 true l0_1 (l0_1.length : Int) (wrap64 (x23_2 + 1)) a0_0 l0_1) = some r := by first | (rw [hy115]; with_reducible exact H) | (have H2_ := (Option.bind_some _ _).symm.trans H; rw [hy115]; with_reducible exact H2_) | (have H2_ := (Option.bind_some _ _).symm.trans H; with_reducible exact H2_) | with_reducible exact H | (rw [hy115]; exact H) | exact H
                 have Ny115 := Aside0.mk hy115
                 clear hy115
                 have H' := Aside0.mk H
                 clear H
                 have hcz29_0 : w25.cell? ⟨gb110, 0, none⟩ = some (.int .i64 ((rd_T33 l0_1 x23_2).f0)) := (blk_cell BK110.out 0).trans rfl
                 have hcz29_1 : w25.cell? ⟨gb110, 1, none⟩ = some (.int .i64 ((rd_T33 l0_1 x23_2).f1)) := (blk_cell BK110.out 1).trans rfl
                 have hcz29_2 : w25.cell? ⟨gb110, 2, none⟩ = some (.int .i64 ((rd_T33 l0_1 x23_2).f2)) := (blk_cell BK110.out 2).trans rfl
                 have hcz29_3 : w25.cell? ⟨gb110, 3, none⟩ = some (.int .i64 ((rd_T33 l0_1 x23_2).f3)) := (blk_cell BK110.out 3).trans rfl
                 have hcz29_4 : w25.cell? ⟨gb110, 4, none⟩ = some (.int .i64 ((rd_T33 l0_1 x23_2).f4)) := (blk_cell BK110.out 4).trans rfl
                 have hfz29_0 := blk_frozen BK110.out 0
                 have hfz29_1 := blk_frozen BK110.out 1
                 have hfz29_2 := blk_frozen BK110.out 2
                 have hfz29_3 := blk_frozen BK110.out 3
                 have hfz29_4 := blk_frozen BK110.out 4
                 try go_wp2
                 have n0_ : Aside0 (Kd.R k135 135 ((((w25.setCell ⟨gb112, 0, none⟩ (.int .i64 ((rd_T135 x5_2 ((rd_T33 l0_1 x23_2).f1)).f0))).setCell ⟨gb112, 1, none⟩ (.int .i64 ((rd_T135 x5_2 ((rd_T33 l0_1 x23_2).f1)).f1))).setCell ⟨gb112, 0, none⟩ (.int .i64 (wrap64 (((rd_T135 x5_2 ((rd_T33 l0_1 x23_2).f1)).f0) + ((rd_T33 l0_1 x23_2).f2))))).setCell ⟨gb112, 1, none⟩ (.int .i64 (wrap64 (((rd_T135 x5_2 ((rd_T33 l0_1 x23_2).f1)).f1) + 1)))) w.heap.size (fun k_ => k_ ≠ gb112) (.slice (some ⟨go6, 0, none⟩) x5_2.length co6) x5_2) := ⟨by (with_reducible repeat (first | apply Kd.R_alloc | apply Kd.R_drewN | apply Kd.R_drew)); exact Kd.R_mono (Kd.R_far (p := ⟨gb112, 1, none⟩) (Kd.R_far (p := ⟨gb112, 0, none⟩) (Kd.R_far (p := ⟨gb112, 1, none⟩) (Kd.R_far (p := ⟨gb112, 0, none⟩) (Kd.R_mono HO_5.out (fun k_ hk => (⟨hk, hk.2⟩ : _ ∧ k_ ≠ gb112))) (fun _ hk => hk.2) (.int .i64 ((rd_T135 x5_2 ((rd_T33 l0_1 x23_2).f1)).f0))) (fun _ hk => hk.2) (.int .i64 ((rd_T135 x5_2 ((rd_T33 l0_1 x23_2).f1)).f1))) (fun _ hk => hk.2) (.int .i64 (wrap64 (((rd_T135 x5_2 ((rd_T33 l0_1 x23_2).f1)).f0) + ((rd_T33 l0_1 x23_2).f2))))) (fun _ hk => hk.2) (.int .i64 (wrap64 (((rd_T135 x5_2 ((rd_T33 l0_1 x23_2).f1)).f1) + 1)))) (fun _ hk => hk.1.2)⟩
                 have n1_ : Aside0 (((((w25.setCell ⟨gb112, 0, none⟩ (.int .i64 ((rd_T135 x5_2 ((rd_T33 l0_1 x23_2).f1)).f0))).setCell ⟨gb112, 1, none⟩ (.int .i64 ((rd_T135 x5_2 ((rd_T33 l0_1 x23_2).f1)).f1))).setCell ⟨gb112, 0, none⟩ (.int .i64 (wrap64 (((rd_T135 x5_2 ((rd_T33 l0_1 x23_2).f1)).f0) + ((rd_T33 l0_1 x23_2).f2))))).setCell ⟨gb112, 1, none⟩ (.int .i64 (wrap64 (((rd_T135 x5_2 ((rd_T33 l0_1 x23_2).f1)).f1) + 1)))).heap[gb101]? = some (.cells #[.int .i64 a0_0, .slice (some ad109) l0_1.length c0_1] 25 (0, 0))) := ⟨by (with_reducible repeat (first | refine blk_drewN ?_ _ | refine blk_drew ?_ | refine blk_alloc ?_ _)); refine blk_far ?_ NB101_112.out _; (with_reducible repeat (first | refine blk_drewN ?_ _ | refine blk_drew ?_ | refine blk_alloc ?_ _)); refine blk_far ?_ NB101_112.out _; (with_reducible repeat (first | refine blk_drewN ?_ _ | refine blk_drew ?_ | refine blk_alloc ?_ _)); refine blk_far ?_ NB101_112.out _; (with_reducible repeat (first | refine blk_drewN ?_ _ | refine blk_drew ?_ | refine blk_alloc ?_ _)); refine blk_far ?_ NB101_112.out _; exact ub BK101⟩
                 have n2_ : Aside0 (((((w25.setCell ⟨gb112, 0, none⟩ (.int .i64 ((rd_T135 x5_2 ((rd_T33 l0_1 x23_2).f1)).f0))).setCell ⟨gb112, 1, none⟩ (.int .i64 ((rd_T135 x5_2 ((rd_T33 l0_1 x23_2).f1)).f1))).setCell ⟨gb112, 0, none⟩ (.int .i64 (wrap64 (((rd_T135 x5_2 ((rd_T33 l0_1 x23_2).f1)).f0) + ((rd_T33 l0_1 x23_2).f2))))).setCell ⟨gb112, 1, none⟩ (.int .i64 (wrap64 (((rd_T135 x5_2 ((rd_T33 l0_1 x23_2).f1)).f1) + 1)))).heap[gb110]? = some (.cells #[.int .i64 ((rd_T33 l0_1 x23_2).f0), .int .i64 ((rd_T33 l0_1 x23_2).f1), .int .i64 ((rd_T33 l0_1 x23_2).f2), .int .i64 ((rd_T33 l0_1 x23_2).f3), .int .i64 ((rd_T33 l0_1 x23_2).f4)] 33 (0, 0))) := ⟨by (with_reducible repeat (first | refine blk_drewN ?_ _ | refine blk_drew ?_ | refine blk_alloc ?_ _)); refine blk_far ?_ NB110_112.out _; (with_reducible repeat (first | refine blk_drewN ?_ _ | refine blk_drew ?_ | refine blk_alloc ?_ _)); refine blk_far ?_ NB110_112.out _; (with_reducible repeat (first | refine blk_drewN ?_ _ | refine blk_drew ?_ | refine blk_alloc ?_ _)); refine blk_far ?_ NB110_112.out _; (with_reducible repeat (first | refine blk_drewN ?_ _ | refine blk_drew ?_ | refine blk_alloc ?_ _)); refine blk_far ?_ NB110_112.out _; exact ub BK110⟩
                 have n3_ : Aside0 (((((w25.setCell ⟨gb112, 0, none⟩ (.int .i64 ((rd_T135 x5_2 ((rd_T33 l0_1 x23_2).f1)).f0))).setCell ⟨gb112, 1, none⟩ (.int .i64 ((rd_T135 x5_2 ((rd_T33 l0_1 x23_2).f1)).f1))).setCell ⟨gb112, 0, none⟩ (.int .i64 (wrap64 (((rd_T135 x5_2 ((rd_T33 l0_1 x23_2).f1)).f0) + ((rd_T33 l0_1 x23_2).f2))))).setCell ⟨gb112, 1, none⟩ (.int .i64 (wrap64 (((rd_T135 x5_2 ((rd_T33 l0_1 x23_2).f1)).f1) + 1)))).heap[gb112]? = some (.cells #[.int .i64 (wrap64 (((rd_T135 x5_2 ((rd_T33 l0_1 x23_2).f1)).f0) + ((rd_T33 l0_1 x23_2).f2))), .int .i64 (wrap64 (((rd_T135 x5_2 ((rd_T33 l0_1 x23_2).f1)).f1) + 1))] 135 (0, 0))) := ⟨by (with_reducible repeat (first | refine blk_drewN ?_ _ | refine blk_drew ?_ | refine blk_alloc ?_ _)); refine blk_put (cs := #[.int .i64 (wrap64 (((rd_T135 x5_2 ((rd_T33 l0_1 x23_2).f1)).f0) + ((rd_T33 l0_1 x23_2).f2))), .int .i64 ((rd_T135 x5_2 ((rd_T33 l0_1 x23_2).f1)).f1)]) ?_ 1 _ rfl; (with_reducible repeat (first | refine blk_drewN ?_ _ | refine blk_drew ?_ | refine blk_alloc ?_ _)); refine blk_put (cs := #[.int .i64 ((rd_T135 x5_2 ((rd_T33 l0_1 x23_2).f1)).f0), .int .i64 ((rd_T135 x5_2 ((rd_T33 l0_1 x23_2).f1)).f1)]) ?_ 0 _ rfl; (with_reducible repeat (first | refine blk_drewN ?_ _ | refine blk_drew ?_ | refine blk_alloc ?_ _)); refine blk_put (cs := #[.int .i64 ((rd_T135 x5_2 ((rd_T33 l0_1 x23_2).f1)).f0), .int .i64 0]) ?_ 1 _ rfl; (with_reducible repeat (first | refine blk_drewN ?_ _ | refine blk_drew ?_ | refine blk_alloc ?_ _)); refine blk_put (cs := #[.int .i64 0, .int .i64 0]) ?_ 0 _ rfl; exact ub BK112⟩
                 have n4_ : Aside0 (Below w.heap.size w ((((w25.setCell ⟨gb112, 0, none⟩ (.int .i64 ((rd_T135 x5_2 ((rd_T33 l0_1 x23_2).f1)).f0))).setCell ⟨gb112, 1, none⟩ (.int .i64 ((rd_T135 x5_2 ((rd_T33 l0_1 x23_2).f1)).f1))).setCell ⟨gb112, 0, none⟩ (.int .i64 (wrap64 (((rd_T135 x5_2 ((rd_T33 l0_1 x23_2).f1)).f0) + ((rd_T33 l0_1 x23_2).f2))))).setCell ⟨gb112, 1, none⟩ (.int .i64 (wrap64 (((rd_T135 x5_2 ((rd_T33 l0_1 x23_2).f1)).f1) + 1))))) := ⟨uB3 HB GE101.out GE110.out GE112.out⟩
                 (try clear HO_5)
                 (try clear BK101)
                 (try clear BK110)
                 (try clear BK112)
                 (try clear HB)
                 generalize ((((w25.setCell ⟨gb112, 0, none⟩ (.int .i64 ((rd_T135 x5_2 ((rd_T33 l0_1 x23_2).f1)).f0))).setCell ⟨gb112, 1, none⟩ (.int .i64 ((rd_T135 x5_2 ((rd_T33 l0_1 x23_2).f1)).f1))).setCell ⟨gb112, 0, none⟩ (.int .i64 (wrap64 (((rd_T135 x5_2 ((rd_T33 l0_1 x23_2).f1)).f0) + ((rd_T33 l0_1 x23_2).f2))))).setCell ⟨gb112, 1, none⟩ (.int .i64 (wrap64 (((rd_T135 x5_2 ((rd_T33 l0_1 x23_2).f1)).f1) + 1)))) = w30 at n0_ n1_ n2_ n3_ n4_ ⊢
                 have HO_5 := n0_
                 have BK101 := n1_
                 have BK110 := n2_
                 have BK112 := n3_
                 have HB := n4_
                 clear n0_ n1_ n2_ n3_ n4_
                 have n0_ := Aside0.mk (Kd.R_drew HO_5.out)
                 have n1_ := Aside0.mk (blk_drew BK101.out)
                 have n2_ := Aside0.mk (blk_drew BK110.out)
                 have n3_ := Aside0.mk (blk_drew BK112.out)
                 have n4_ := Aside0.mk (below_drew1 HB.out)
                 clear HO_5
                 clear BK101
                 clear BK110
                 clear BK112
                 clear HB
                 have HO_5 := n0_
                 have BK101 := n1_
                 have BK110 := n2_
                 have BK112 := n3_
                 have HB := n4_
                 clear n0_ n1_ n2_ n3_ n4_
                 have p113 : 0 ≤ (((rd_T33 l0_1 x23_2).f0) : Int) := ua
                 have q113 : ((rd_T33 l0_1 x23_2).f0) < (x5_2.length : Int) := ua
                 obtain ⟨ad113, e113, hx113_0, hx113_1⟩ := at_T135 (Kd.R_reads' HO_5.out).2.2 ((rd_T33 l0_1 x23_2).f0) p113 q113
                 obtain rfl : (⟨go6, 0, none⟩ : Addr) = ad113 := (by injection e113)
                 (first | simp only [add_plain] at hx113_0 | simp only [add_at] at hx113_0 | simp only [Addr.add, Nat.zero_add] at hx113_0 | skip)
                 (first | simp only [add_plain] at hx113_1 | simp only [add_at] at hx113_1 | simp only [Addr.add, Nat.zero_add] at hx113_1 | skip)
                 replace p113 := eq_true p113
                 replace q113 := eq_true q113
                 refine start_ (n := 7) (S := fun w' => w'.cell? ⟨gb112, 0, none⟩ = some (.int .i64 (wrap64 (((rd_T135 x5_2 ((rd_T33 l0_1 x23_2).f1)).f0) + ((rd_T33 l0_1 x23_2).f2)))) ∧ w'.cell? ⟨gb112, 1, none⟩ = some (.int .i64 (wrap64 (((rd_T135 x5_2 ((rd_T33 l0_1 x23_2).f1)).f1) + 1))) ∧ w'.cell? ⟨gb110, 0, none⟩ = some (.int .i64 ((rd_T33 l0_1 x23_2).f0)) ∧ w'.cell? ⟨gb110, 1, none⟩ = some (.int .i64 ((rd_T33 l0_1 x23_2).f1)) ∧ w'.cell? ⟨gb110, 2, none⟩ = some (.int .i64 ((rd_T33 l0_1 x23_2).f2)) ∧ w'.cell? ⟨gb110, 3, none⟩ = some (.int .i64 ((rd_T33 l0_1 x23_2).f3)) ∧ w'.cell? ⟨gb110, 4, none⟩ = some (.int .i64 ((rd_T33 l0_1 x23_2).f4)) ∧ w'.cell? ⟨go6, (((rd_T33 l0_1 x23_2).f0)).toNat * 2, none⟩ = some (.int .i64 ((rd_T135 x5_2 ((rd_T33 l0_1 x23_2).f0)).f0)) ∧ w'.cell? ⟨go6, (((rd_T33 l0_1 x23_2).f0)).toNat * 2 + 1, none⟩ = some (.int .i64 ((rd_T135 x5_2 ((rd_T33 l0_1 x23_2).f0)).f1))) (ds := []) #[false, false, false, false, false, false, false] (by kernel_rfl) rfl rfl ⟨(blk_cell BK112.out 0).trans rfl, (blk_cell BK112.out 1).trans rfl, (blk_cell BK110.out 0).trans rfl, (blk_cell BK110.out 1).trans rfl, (blk_cell BK110.out 2).trans rfl, (blk_cell BK110.out 3).trans rfl, (blk_cell BK110.out 4).trans rfl, hx113_0, hx113_1⟩ (fun hHeld => ?_)
                 generalize w30.drew = w31 at HO_5 BK101 BK110 BK112 HB hx113_0 hx113_1 hHeld ⊢
                 refine pure_ (i := 1) (N := some 45) (v := ?_) (a' := ?_) #[false, true, false, false, false, false, false] rfl rfl (by kernel_rfl) (fun _ _ _ h => h) (Or.inl ⟨by rfl, ?_⟩) ?_ ?_
                 rotate_left
                 ·
                  intro w'
                  go_simp
                  with_reducible rfl
                 rotate_left
                 ·
                  simp only [Act.put, List.setIfInBounds_toArray, List.set_cons_zero, List.set_cons_succ, i64_w, i32_w]
                  rfl
                 refine pure_ (i := 2) (N := some 46) (v := ?_) (a' := ?_) #[false, true, true, false, false, false, false] rfl rfl (by kernel_rfl) (fun _ _ _ h => h) (Or.inl ⟨by rfl, ?_⟩) ?_ ?_
                 rotate_left
                 ·
                  intro w'
                  go_simp
                  with_reducible rfl
                 rotate_left
                 ·
                  simp only [Act.put, List.setIfInBounds_toArray, List.set_cons_zero, List.set_cons_succ, i64_w, i32_w]
                  rfl
                 refine take_ (i := 0) (N := some 44) (v := ?_) (a' := ?_) #[true, true, true, false, false, false, false] rfl rfl (by kernel_rfl) (fun _ _ _ h => h) (Or.inl ⟨by rfl, ?_⟩) hHeld ?_ ?_
                 rotate_left
                 ·
                  rintro w' ⟨s0, s1, s2, s3, s4, s5, s6, s7, s8⟩
                  go_simp
                  with_reducible rfl
                 rotate_left
                 ·
                  simp only [Act.put, List.setIfInBounds_toArray, List.set_cons_zero, List.set_cons_succ, i64_w, i32_w]
                  rfl
                 refine take_ (i := 3) (N := some 47) (v := ?_) (a' := ?_) #[true, true, true, true, false, false, false] rfl rfl (by kernel_rfl) (fun _ _ _ h => h) (Or.inl ⟨by rfl, ?_⟩) hHeld ?_ ?_
                 rotate_left
                 ·
                  rintro w' ⟨s0, s1, s2, s3, s4, s5, s6, s7, s8⟩
                  go_simp
                  with_reducible rfl
                 rotate_left
                 ·
                  simp only [Act.put, List.setIfInBounds_toArray, List.set_cons_zero, List.set_cons_succ, i64_w, i32_w]
                  rfl
                 refine pure_ (i := 4) (N := some 48) (v := ?_) (a' := ?_) #[true, true, true, true, true, false, false] rfl rfl (by kernel_rfl) (fun _ _ _ h => h) (Or.inl ⟨by rfl, ?_⟩) ?_ ?_
                 rotate_left
                 ·
                  intro w'
                  go_simp
                  with_reducible rfl
                 rotate_left
                 ·
                  simp only [Act.put, List.setIfInBounds_toArray, List.set_cons_zero, List.set_cons_succ, i64_w, i32_w]
                  rfl
                 refine take_ (i := 5) (N := some 49) (v := ?_) (a' := ?_) #[true, true, true, true, true, true, false] rfl rfl (by kernel_rfl) (fun _ _ _ h => h) (Or.inl ⟨by rfl, ?_⟩) hHeld ?_ ?_
                 rotate_left
                 ·
                  rintro w' ⟨s0, s1, s2, s3, s4, s5, s6, s7, s8⟩
                  go_simp
                  with_reducible rfl
                 rotate_left
                 ·
                  simp only [Act.put, List.setIfInBounds_toArray, List.set_cons_zero, List.set_cons_succ, i64_w, i32_w]
                  rfl
                 refine one_ (i := 6) (N := some 50) #[true, true, true, true, true, true, true] rfl rfl (by kernel_rfl) (by decide) (fun K hK => ?_)
                 refine goes_ Try.func173 (by kernel_rfl) rfl #[.agg #[.int .i64 (wrap64 (((rd_T135 x5_2 ((rd_T33 l0_1 x23_2).f1)).f0) + ((rd_T33 l0_1 x23_2).f2))), .int .i64 (wrap64 (((rd_T135 x5_2 ((rd_T33 l0_1 x23_2).f1)).f1) + 1))], .agg #[.int .i64 ((rd_T135 x5_2 ((rd_T33 l0_1 x23_2).f0)).f0), .int .i64 ((rd_T135 x5_2 ((rd_T33 l0_1 x23_2).f0)).f1)]] (by rfl) rfl rfl ul ?_
                 with_reducible refine (impl_measure_less.calls (wrap64 (((rd_T135 x5_2 ((rd_T33 l0_1 x23_2).f1)).f0) + ((rd_T33 l0_1 x23_2).f2))) (wrap64 (((rd_T135 x5_2 ((rd_T33 l0_1 x23_2).f1)).f1) + 1)) ((rd_T135 x5_2 ((rd_T33 l0_1 x23_2).f0)).f0) ((rd_T135 x5_2 ((rd_T33 l0_1 x23_2).f0)).f1) true _ A32.out).mono ?_
                 rintro e w32 ⟨rfl, hb⟩
                 have HS7_ := (hb.cell (World.block_lt_of_cell? _ _ (hHeld.2.2.2.2.2.2.2.1))).trans (hHeld.2.2.2.2.2.2.2.1)
                 have HS8_ := (hb.cell (World.block_lt_of_cell? _ _ (hHeld.2.2.2.2.2.2.2.2))).trans (hHeld.2.2.2.2.2.2.2.2)
                 refine ⟨_, rfl, ?_⟩
                 have n0_ := Aside0.mk (Kd.R_below (ur HO_5) hb)
                 have n1_ := Aside0.mk (blk_below (g := gb101) (o := .cells #[.int .i64 a0_0, .slice (some ad109) l0_1.length c0_1] 25 (0, 0)) (ub BK101) hb)
                 have n2_ := Aside0.mk (blk_below (g := gb110) (o := .cells #[.int .i64 ((rd_T33 l0_1 x23_2).f0), .int .i64 ((rd_T33 l0_1 x23_2).f1), .int .i64 ((rd_T33 l0_1 x23_2).f2), .int .i64 ((rd_T33 l0_1 x23_2).f3), .int .i64 ((rd_T33 l0_1 x23_2).f4)] 33 (0, 0)) (ub BK110) hb)
                 have n3_ := Aside0.mk (blk_below (g := gb112) (o := .cells #[.int .i64 (wrap64 (((rd_T135 x5_2 ((rd_T33 l0_1 x23_2).f1)).f0) + ((rd_T33 l0_1 x23_2).f2))), .int .i64 (wrap64 (((rd_T135 x5_2 ((rd_T33 l0_1 x23_2).f1)).f1) + 1))] 135 (0, 0)) (ub BK112) hb)
                 have n4_ := Aside0.mk (below_step (uB3 HB GE101.out GE110.out GE112.out) hb)
                 clear HO_5
                 clear BK101
                 clear BK110
                 clear BK112
                 clear HB
                 have HO_5 := n0_
                 have BK101 := n1_
                 have BK110 := n2_
                 have BK112 := n3_
                 have HB := n4_
                 clear n0_ n1_ n2_ n3_ n4_
                 (try clear hb)
                 (try clear hb2)
                 (try clear hk)
                 (try clear hi)
                 refine hK.out _ _ ⟨(blk_cell BK112.out 0).trans rfl, (blk_cell BK112.out 1).trans rfl, (blk_cell BK110.out 0).trans rfl, (blk_cell BK110.out 1).trans rfl, (blk_cell BK110.out 2).trans rfl, (blk_cell BK110.out 3).trans rfl, (blk_cell BK110.out 4).trans rfl, HS7_, HS8_⟩ (fun hHeld => ?_)
                 clear hK K
                 refine norm_ (a' := ?_) ?_ ?_
                 rotate_left
                 ·
                  show Act.put _ (some 50) _ = _
                  simp only [Act.put, List.setIfInBounds_toArray, List.set_cons_zero, List.set_cons_succ, i64_w, i32_w]
                  rfl
                 refine done_ (by kernel_rfl) ?_
                 have hcz33_0 : w32.cell? ⟨gb110, 0, none⟩ = some (.int .i64 ((rd_T33 l0_1 x23_2).f0)) := (blk_cell BK110.out 0).trans rfl
                 have hcz33_1 : w32.cell? ⟨gb110, 1, none⟩ = some (.int .i64 ((rd_T33 l0_1 x23_2).f1)) := (blk_cell BK110.out 1).trans rfl
                 have hcz33_2 : w32.cell? ⟨gb110, 2, none⟩ = some (.int .i64 ((rd_T33 l0_1 x23_2).f2)) := (blk_cell BK110.out 2).trans rfl
                 have hcz33_3 : w32.cell? ⟨gb110, 3, none⟩ = some (.int .i64 ((rd_T33 l0_1 x23_2).f3)) := (blk_cell BK110.out 3).trans rfl
                 have hcz33_4 : w32.cell? ⟨gb110, 4, none⟩ = some (.int .i64 ((rd_T33 l0_1 x23_2).f4)) := (blk_cell BK110.out 4).trans rfl
                 have hfz33_0 := blk_frozen BK110.out 0
                 have hfz33_1 := blk_frozen BK110.out 1
                 have hfz33_2 := blk_frozen BK110.out 2
                 have hfz33_3 := blk_frozen BK110.out 3
                 have hfz33_4 := blk_frozen BK110.out 4
                 have hcz34_0 : w32.cell? ⟨gb112, 0, none⟩ = some (.int .i64 (wrap64 (((rd_T135 x5_2 ((rd_T33 l0_1 x23_2).f1)).f0) + ((rd_T33 l0_1 x23_2).f2)))) := (blk_cell BK112.out 0).trans rfl
                 have hcz34_1 : w32.cell? ⟨gb112, 1, none⟩ = some (.int .i64 (wrap64 (((rd_T135 x5_2 ((rd_T33 l0_1 x23_2).f1)).f1) + 1))) := (blk_cell BK112.out 1).trans rfl
                 have hfz34_0 := blk_frozen BK112.out 0
                 have hfz34_1 := blk_frozen BK112.out 1
                 have p34 : 0 ≤ (((rd_T33 l0_1 x23_2).f0) : Int) := ua
                 have q34 : (((rd_T33 l0_1 x23_2).f0) : Int) < ((x5_2.length : Int) : Int) := ua
                 obtain ⟨ce34, hcl34, hM34, hcc34, hfr34⟩ := Kd.R_elem HO_5.out z135 (((rd_T33 l0_1 x23_2).f0) : Int) p34 q34
                 obtain rfl := k135_openM hM34
                 have hx34_0 : w32.cell? ⟨go6, (((rd_T33 l0_1 x23_2).f0) : Int).toNat * 2, none⟩ = some (.int .i64 ((rd_T135 x5_2 ((rd_T33 l0_1 x23_2).f0)).f0)) := hcc34 0 _ rfl
                 have hx34_1 : w32.cell? ⟨go6, (((rd_T33 l0_1 x23_2).f0) : Int).toNat * 2 + 1, none⟩ = some (.int .i64 ((rd_T135 x5_2 ((rd_T33 l0_1 x23_2).f0)).f1)) := hcc34 1 _ rfl
                 have hf34_0 : w32.frozen? ⟨go6, (((rd_T33 l0_1 x23_2).f0) : Int).toNat * 2, none⟩ = false := hfr34 0
                 have hf34_1 : w32.frozen? ⟨go6, (((rd_T33 l0_1 x23_2).f0) : Int).toNat * 2 + 1, none⟩ = false := hfr34 1
                 clear hcl34 hcc34 hfr34 hM34
                 replace p34 := eq_true p34
                 replace q34 := eq_true q34
                 have HX35 := Aside0.mk (show Kd.R k135 135 w32 w.heap.size (fun k_ => k_ ≠ gb112) (.slice (some ⟨go6, 0, none⟩) x5_2.length co6) x5_2 from (ur HO_5))
                 obtain ⟨ce35, hcl35, hM35, hcc35, hfr35⟩ := Kd.R_elem HX35.out z135 (((rd_T33 l0_1 x23_2).f0) : Int) (ua) (by have h_ : (((rd_T33 l0_1 x23_2).f0) : Int) < ((x5_2.length : Int) : Int) := ua; first | exact h_ | (have e_ := (Kd.R_reads' HO_5.out).1; omega) | simpa using h_)
                 obtain rfl := k135_openM hM35
                 have HP35 := Kd.R_seg HX35.out (((rd_T33 l0_1 x23_2).f0) : Int) (ua) (by have h_ : (((rd_T33 l0_1 x23_2).f0) : Int) < ((x5_2.length : Int) : Int) := ua; first | exact h_ | (have e_ := (Kd.R_reads' HO_5.out).1; omega) | simpa using h_) (seg := [.int .i64 (wrap64 (((rd_T135 x5_2 ((rd_T33 l0_1 x23_2).f1)).f0) + ((rd_T33 l0_1 x23_2).f2))), .int .i64 (wrap64 (((rd_T135 x5_2 ((rd_T33 l0_1 x23_2).f1)).f1) + 1))]) (j := 0) hcl35 hcc35 (show 2 ≤ 2 from by decide) (x' := (⟨wrap64 (((rd_T135 x5_2 ((rd_T33 l0_1 x23_2).f1)).f0) + ((rd_T33 l0_1 x23_2).f2)), wrap64 (((rd_T135 x5_2 ((rd_T33 l0_1 x23_2).f1)).f1) + 1)⟩ : S135)) (k135_mkM _ _ _ (⟨wrap64 (((rd_T135 x5_2 ((rd_T33 l0_1 x23_2).f1)).f0) + ((rd_T33 l0_1 x23_2).f2)), wrap64 (((rd_T135 x5_2 ((rd_T33 l0_1 x23_2).f1)).f1) + 1)⟩ : S135) ) (fun _ hk => hk)
                 have hx35_0 := hcc35 0 _ rfl
                 (try simp only [show (k135).sz = 2 from rfl, Nat.mul_one, Nat.add_zero] at hx35_0)
                 have hf35_0 := hfr35 0
                 (try simp only [show (k135).sz = 2 from rfl, Nat.mul_one, Nat.add_zero] at hf35_0)
                 have hx35_1 := hcc35 1 _ rfl
                 (try simp only [show (k135).sz = 2 from rfl, Nat.mul_one, Nat.add_zero] at hx35_1)
                 have hf35_1 := hfr35 1
                 (try simp only [show (k135).sz = 2 from rfl, Nat.mul_one, Nat.add_zero] at hf35_1)
                 clear hcl35 hcc35 hfr35 hM35
                 try go_wp2_with (first | ((with_reducible refine gate_store (t := 135) (p := 55) rfl ?_); refine store_event (t := 135) (p := 55) (v := ?vo_w36) (w1 := ((w32.setCell ⟨go6, (((rd_T33 l0_1 x23_2).f0) : Int).toNat * 2, none⟩ (.int .i64 (wrap64 (((rd_T135 x5_2 ((rd_T33 l0_1 x23_2).f1)).f0) + ((rd_T33 l0_1 x23_2).f2))))).setCell ⟨go6, (((rd_T33 l0_1 x23_2).f0) : Int).toNat * 2 + 1, none⟩ (.int .i64 (wrap64 (((rd_T135 x5_2 ((rd_T33 l0_1 x23_2).f1)).f1) + 1))))) ?hg ?ho ?hn ?hr ?_; (case ho => rfl); (case hg => rfl); (case hn => rfl); (case hr => first | (go_simp; done) | (go_simp; rfl)); intro w36 hw; have hg : w32.grownBy w36 (some go6) := (by rw [hw]; exact HP35.2); have hp_ : Kd.R k135 135 w36 w.heap.size (fun k_ => k_ ≠ gb112) (.slice (some ⟨go6, 0, none⟩) x5_2.length co6) y115 := (by rw [hw, Ny115.out]; exact HP35.1); clear HP35; have n0_ := Aside0.mk (hp_); have n1_ := Aside0.mk (blk_grown (g := gb101) (o := .cells #[.int .i64 a0_0, .slice (some ad109) l0_1.length c0_1] 25 (0, 0)) (ub BK101) hg (Kd.R_ne HO_5.out BK101.out (by decide))); have n2_ := Aside0.mk (blk_grown (g := gb110) (o := .cells #[.int .i64 ((rd_T33 l0_1 x23_2).f0), .int .i64 ((rd_T33 l0_1 x23_2).f1), .int .i64 ((rd_T33 l0_1 x23_2).f2), .int .i64 ((rd_T33 l0_1 x23_2).f3), .int .i64 ((rd_T33 l0_1 x23_2).f4)] 33 (0, 0)) (ub BK110) hg (Kd.R_ne HO_5.out BK110.out (by decide))); have n3_ := Aside0.mk (blk_grown (g := gb112) (o := .cells #[.int .i64 (wrap64 (((rd_T135 x5_2 ((rd_T33 l0_1 x23_2).f1)).f0) + ((rd_T33 l0_1 x23_2).f2))), .int .i64 (wrap64 (((rd_T135 x5_2 ((rd_T33 l0_1 x23_2).f1)).f1) + 1))] 135 (0, 0)) (ub BK112) hg (Kd.R_away HO_5.out (fun _ hk => hk))); have n4_ := Aside0.mk ((by rw [hw]; exact below_set (below_set (HB.out) GB6.out) GB6.out : Below w.heap.size w w36)); clear HO_5; clear BK101; clear BK110; clear BK112; clear HB; have HO_5 := n0_; have BK101 := n1_; have BK110 := n2_; have BK112 := n3_; have HB := n4_; clear n0_ n1_ n2_ n3_ n4_; clear hg hw hp_))
                 (try simp only [← hl5_2])
                 go_roundg k2
                 case measure => have := HK1.out; have := HK2.out; omega
                 case rel => exact ⟨(y115), (true), (wrap64 (x23_2 + 1)), ue, ue, H', ⟨by have := HK1.out; have := HK2.out; omega⟩, ⟨by (try simp only [hl5_1]); (try simp only [hl5_2]); (with_reducible repeat (first | apply Kd.R_alloc | apply Kd.R_drewN | apply Kd.R_drew)); exact Kd.R_mono HO_5.out (fun _ hk => trivial)⟩, ⟨by (try simp only [hl5_1]); (try simp only [hl5_2]); exact ub BK101⟩, ⟨uB3 HB GE101.out GE110.out GE112.out⟩⟩
                ·
                 replace c33 := Bool.eq_false_iff.mpr c33
                 subst c33
                 have H1 : (impl_Net_toward.l1 k2 x5_2 x6_2 l0_1 (l0_1.length : Int) (wrap64 (x23_2 + 1)) a0_0 l0_1) = some r := by rw [if_neg (show ¬ (false = true) by decide)] at H; exact H
                 clear H
                 have H := H1
                 clear H1
                 have H' := Aside0.mk H
                 clear H
                 have hcz29_0 : w25.cell? ⟨gb110, 0, none⟩ = some (.int .i64 ((rd_T33 l0_1 x23_2).f0)) := (blk_cell BK110.out 0).trans rfl
                 have hcz29_1 : w25.cell? ⟨gb110, 1, none⟩ = some (.int .i64 ((rd_T33 l0_1 x23_2).f1)) := (blk_cell BK110.out 1).trans rfl
                 have hcz29_2 : w25.cell? ⟨gb110, 2, none⟩ = some (.int .i64 ((rd_T33 l0_1 x23_2).f2)) := (blk_cell BK110.out 2).trans rfl
                 have hcz29_3 : w25.cell? ⟨gb110, 3, none⟩ = some (.int .i64 ((rd_T33 l0_1 x23_2).f3)) := (blk_cell BK110.out 3).trans rfl
                 have hcz29_4 : w25.cell? ⟨gb110, 4, none⟩ = some (.int .i64 ((rd_T33 l0_1 x23_2).f4)) := (blk_cell BK110.out 4).trans rfl
                 have hfz29_0 := blk_frozen BK110.out 0
                 have hfz29_1 := blk_frozen BK110.out 1
                 have hfz29_2 := blk_frozen BK110.out 2
                 have hfz29_3 := blk_frozen BK110.out 3
                 have hfz29_4 := blk_frozen BK110.out 4
                 try go_wp2
                 have n0_ : Aside0 (Kd.R k135 135 ((((w25.setCell ⟨gb112, 0, none⟩ (.int .i64 ((rd_T135 x5_2 ((rd_T33 l0_1 x23_2).f1)).f0))).setCell ⟨gb112, 1, none⟩ (.int .i64 ((rd_T135 x5_2 ((rd_T33 l0_1 x23_2).f1)).f1))).setCell ⟨gb112, 0, none⟩ (.int .i64 (wrap64 (((rd_T135 x5_2 ((rd_T33 l0_1 x23_2).f1)).f0) + ((rd_T33 l0_1 x23_2).f2))))).setCell ⟨gb112, 1, none⟩ (.int .i64 (wrap64 (((rd_T135 x5_2 ((rd_T33 l0_1 x23_2).f1)).f1) + 1)))) w.heap.size (fun k_ => k_ ≠ gb112) (.slice (some ⟨go6, 0, none⟩) x5_2.length co6) x5_2) := ⟨by (with_reducible repeat (first | apply Kd.R_alloc | apply Kd.R_drewN | apply Kd.R_drew)); exact Kd.R_mono (Kd.R_far (p := ⟨gb112, 1, none⟩) (Kd.R_far (p := ⟨gb112, 0, none⟩) (Kd.R_far (p := ⟨gb112, 1, none⟩) (Kd.R_far (p := ⟨gb112, 0, none⟩) (Kd.R_mono HO_5.out (fun k_ hk => (⟨hk, hk.2⟩ : _ ∧ k_ ≠ gb112))) (fun _ hk => hk.2) (.int .i64 ((rd_T135 x5_2 ((rd_T33 l0_1 x23_2).f1)).f0))) (fun _ hk => hk.2) (.int .i64 ((rd_T135 x5_2 ((rd_T33 l0_1 x23_2).f1)).f1))) (fun _ hk => hk.2) (.int .i64 (wrap64 (((rd_T135 x5_2 ((rd_T33 l0_1 x23_2).f1)).f0) + ((rd_T33 l0_1 x23_2).f2))))) (fun _ hk => hk.2) (.int .i64 (wrap64 (((rd_T135 x5_2 ((rd_T33 l0_1 x23_2).f1)).f1) + 1)))) (fun _ hk => hk.1.2)⟩
                 have n1_ : Aside0 (((((w25.setCell ⟨gb112, 0, none⟩ (.int .i64 ((rd_T135 x5_2 ((rd_T33 l0_1 x23_2).f1)).f0))).setCell ⟨gb112, 1, none⟩ (.int .i64 ((rd_T135 x5_2 ((rd_T33 l0_1 x23_2).f1)).f1))).setCell ⟨gb112, 0, none⟩ (.int .i64 (wrap64 (((rd_T135 x5_2 ((rd_T33 l0_1 x23_2).f1)).f0) + ((rd_T33 l0_1 x23_2).f2))))).setCell ⟨gb112, 1, none⟩ (.int .i64 (wrap64 (((rd_T135 x5_2 ((rd_T33 l0_1 x23_2).f1)).f1) + 1)))).heap[gb101]? = some (.cells #[.int .i64 a0_0, .slice (some ad109) l0_1.length c0_1] 25 (0, 0))) := ⟨by (with_reducible repeat (first | refine blk_drewN ?_ _ | refine blk_drew ?_ | refine blk_alloc ?_ _)); refine blk_far ?_ NB101_112.out _; (with_reducible repeat (first | refine blk_drewN ?_ _ | refine blk_drew ?_ | refine blk_alloc ?_ _)); refine blk_far ?_ NB101_112.out _; (with_reducible repeat (first | refine blk_drewN ?_ _ | refine blk_drew ?_ | refine blk_alloc ?_ _)); refine blk_far ?_ NB101_112.out _; (with_reducible repeat (first | refine blk_drewN ?_ _ | refine blk_drew ?_ | refine blk_alloc ?_ _)); refine blk_far ?_ NB101_112.out _; exact ub BK101⟩
                 have n2_ : Aside0 (((((w25.setCell ⟨gb112, 0, none⟩ (.int .i64 ((rd_T135 x5_2 ((rd_T33 l0_1 x23_2).f1)).f0))).setCell ⟨gb112, 1, none⟩ (.int .i64 ((rd_T135 x5_2 ((rd_T33 l0_1 x23_2).f1)).f1))).setCell ⟨gb112, 0, none⟩ (.int .i64 (wrap64 (((rd_T135 x5_2 ((rd_T33 l0_1 x23_2).f1)).f0) + ((rd_T33 l0_1 x23_2).f2))))).setCell ⟨gb112, 1, none⟩ (.int .i64 (wrap64 (((rd_T135 x5_2 ((rd_T33 l0_1 x23_2).f1)).f1) + 1)))).heap[gb110]? = some (.cells #[.int .i64 ((rd_T33 l0_1 x23_2).f0), .int .i64 ((rd_T33 l0_1 x23_2).f1), .int .i64 ((rd_T33 l0_1 x23_2).f2), .int .i64 ((rd_T33 l0_1 x23_2).f3), .int .i64 ((rd_T33 l0_1 x23_2).f4)] 33 (0, 0))) := ⟨by (with_reducible repeat (first | refine blk_drewN ?_ _ | refine blk_drew ?_ | refine blk_alloc ?_ _)); refine blk_far ?_ NB110_112.out _; (with_reducible repeat (first | refine blk_drewN ?_ _ | refine blk_drew ?_ | refine blk_alloc ?_ _)); refine blk_far ?_ NB110_112.out _; (with_reducible repeat (first | refine blk_drewN ?_ _ | refine blk_drew ?_ | refine blk_alloc ?_ _)); refine blk_far ?_ NB110_112.out _; (with_reducible repeat (first | refine blk_drewN ?_ _ | refine blk_drew ?_ | refine blk_alloc ?_ _)); refine blk_far ?_ NB110_112.out _; exact ub BK110⟩
                 have n3_ : Aside0 (((((w25.setCell ⟨gb112, 0, none⟩ (.int .i64 ((rd_T135 x5_2 ((rd_T33 l0_1 x23_2).f1)).f0))).setCell ⟨gb112, 1, none⟩ (.int .i64 ((rd_T135 x5_2 ((rd_T33 l0_1 x23_2).f1)).f1))).setCell ⟨gb112, 0, none⟩ (.int .i64 (wrap64 (((rd_T135 x5_2 ((rd_T33 l0_1 x23_2).f1)).f0) + ((rd_T33 l0_1 x23_2).f2))))).setCell ⟨gb112, 1, none⟩ (.int .i64 (wrap64 (((rd_T135 x5_2 ((rd_T33 l0_1 x23_2).f1)).f1) + 1)))).heap[gb112]? = some (.cells #[.int .i64 (wrap64 (((rd_T135 x5_2 ((rd_T33 l0_1 x23_2).f1)).f0) + ((rd_T33 l0_1 x23_2).f2))), .int .i64 (wrap64 (((rd_T135 x5_2 ((rd_T33 l0_1 x23_2).f1)).f1) + 1))] 135 (0, 0))) := ⟨by (with_reducible repeat (first | refine blk_drewN ?_ _ | refine blk_drew ?_ | refine blk_alloc ?_ _)); refine blk_put (cs := #[.int .i64 (wrap64 (((rd_T135 x5_2 ((rd_T33 l0_1 x23_2).f1)).f0) + ((rd_T33 l0_1 x23_2).f2))), .int .i64 ((rd_T135 x5_2 ((rd_T33 l0_1 x23_2).f1)).f1)]) ?_ 1 _ rfl; (with_reducible repeat (first | refine blk_drewN ?_ _ | refine blk_drew ?_ | refine blk_alloc ?_ _)); refine blk_put (cs := #[.int .i64 ((rd_T135 x5_2 ((rd_T33 l0_1 x23_2).f1)).f0), .int .i64 ((rd_T135 x5_2 ((rd_T33 l0_1 x23_2).f1)).f1)]) ?_ 0 _ rfl; (with_reducible repeat (first | refine blk_drewN ?_ _ | refine blk_drew ?_ | refine blk_alloc ?_ _)); refine blk_put (cs := #[.int .i64 ((rd_T135 x5_2 ((rd_T33 l0_1 x23_2).f1)).f0), .int .i64 0]) ?_ 1 _ rfl; (with_reducible repeat (first | refine blk_drewN ?_ _ | refine blk_drew ?_ | refine blk_alloc ?_ _)); refine blk_put (cs := #[.int .i64 0, .int .i64 0]) ?_ 0 _ rfl; exact ub BK112⟩
                 have n4_ : Aside0 (Below w.heap.size w ((((w25.setCell ⟨gb112, 0, none⟩ (.int .i64 ((rd_T135 x5_2 ((rd_T33 l0_1 x23_2).f1)).f0))).setCell ⟨gb112, 1, none⟩ (.int .i64 ((rd_T135 x5_2 ((rd_T33 l0_1 x23_2).f1)).f1))).setCell ⟨gb112, 0, none⟩ (.int .i64 (wrap64 (((rd_T135 x5_2 ((rd_T33 l0_1 x23_2).f1)).f0) + ((rd_T33 l0_1 x23_2).f2))))).setCell ⟨gb112, 1, none⟩ (.int .i64 (wrap64 (((rd_T135 x5_2 ((rd_T33 l0_1 x23_2).f1)).f1) + 1))))) := ⟨uB3 HB GE101.out GE110.out GE112.out⟩
                 (try clear HO_5)
                 (try clear BK101)
                 (try clear BK110)
                 (try clear BK112)
                 (try clear HB)
                 generalize ((((w25.setCell ⟨gb112, 0, none⟩ (.int .i64 ((rd_T135 x5_2 ((rd_T33 l0_1 x23_2).f1)).f0))).setCell ⟨gb112, 1, none⟩ (.int .i64 ((rd_T135 x5_2 ((rd_T33 l0_1 x23_2).f1)).f1))).setCell ⟨gb112, 0, none⟩ (.int .i64 (wrap64 (((rd_T135 x5_2 ((rd_T33 l0_1 x23_2).f1)).f0) + ((rd_T33 l0_1 x23_2).f2))))).setCell ⟨gb112, 1, none⟩ (.int .i64 (wrap64 (((rd_T135 x5_2 ((rd_T33 l0_1 x23_2).f1)).f1) + 1)))) = w30 at n0_ n1_ n2_ n3_ n4_ ⊢
                 have HO_5 := n0_
                 have BK101 := n1_
                 have BK110 := n2_
                 have BK112 := n3_
                 have HB := n4_
                 clear n0_ n1_ n2_ n3_ n4_
                 have n0_ := Aside0.mk (Kd.R_drew HO_5.out)
                 have n1_ := Aside0.mk (blk_drew BK101.out)
                 have n2_ := Aside0.mk (blk_drew BK110.out)
                 have n3_ := Aside0.mk (blk_drew BK112.out)
                 have n4_ := Aside0.mk (below_drew1 HB.out)
                 clear HO_5
                 clear BK101
                 clear BK110
                 clear BK112
                 clear HB
                 have HO_5 := n0_
                 have BK101 := n1_
                 have BK110 := n2_
                 have BK112 := n3_
                 have HB := n4_
                 clear n0_ n1_ n2_ n3_ n4_
                 have p113 : 0 ≤ (((rd_T33 l0_1 x23_2).f0) : Int) := ua
                 have q113 : ((rd_T33 l0_1 x23_2).f0) < (x5_2.length : Int) := ua
                 obtain ⟨ad113, e113, hx113_0, hx113_1⟩ := at_T135 (Kd.R_reads' HO_5.out).2.2 ((rd_T33 l0_1 x23_2).f0) p113 q113
                 obtain rfl : (⟨go6, 0, none⟩ : Addr) = ad113 := (by injection e113)
                 (first | simp only [add_plain] at hx113_0 | simp only [add_at] at hx113_0 | simp only [Addr.add, Nat.zero_add] at hx113_0 | skip)
                 (first | simp only [add_plain] at hx113_1 | simp only [add_at] at hx113_1 | simp only [Addr.add, Nat.zero_add] at hx113_1 | skip)
                 replace p113 := eq_true p113
                 replace q113 := eq_true q113
                 refine start_ (n := 7) (S := fun w' => w'.cell? ⟨gb112, 0, none⟩ = some (.int .i64 (wrap64 (((rd_T135 x5_2 ((rd_T33 l0_1 x23_2).f1)).f0) + ((rd_T33 l0_1 x23_2).f2)))) ∧ w'.cell? ⟨gb112, 1, none⟩ = some (.int .i64 (wrap64 (((rd_T135 x5_2 ((rd_T33 l0_1 x23_2).f1)).f1) + 1))) ∧ w'.cell? ⟨gb110, 0, none⟩ = some (.int .i64 ((rd_T33 l0_1 x23_2).f0)) ∧ w'.cell? ⟨gb110, 1, none⟩ = some (.int .i64 ((rd_T33 l0_1 x23_2).f1)) ∧ w'.cell? ⟨gb110, 2, none⟩ = some (.int .i64 ((rd_T33 l0_1 x23_2).f2)) ∧ w'.cell? ⟨gb110, 3, none⟩ = some (.int .i64 ((rd_T33 l0_1 x23_2).f3)) ∧ w'.cell? ⟨gb110, 4, none⟩ = some (.int .i64 ((rd_T33 l0_1 x23_2).f4)) ∧ w'.cell? ⟨go6, (((rd_T33 l0_1 x23_2).f0)).toNat * 2, none⟩ = some (.int .i64 ((rd_T135 x5_2 ((rd_T33 l0_1 x23_2).f0)).f0)) ∧ w'.cell? ⟨go6, (((rd_T33 l0_1 x23_2).f0)).toNat * 2 + 1, none⟩ = some (.int .i64 ((rd_T135 x5_2 ((rd_T33 l0_1 x23_2).f0)).f1))) (ds := []) #[false, false, false, false, false, false, false] (by kernel_rfl) rfl rfl ⟨(blk_cell BK112.out 0).trans rfl, (blk_cell BK112.out 1).trans rfl, (blk_cell BK110.out 0).trans rfl, (blk_cell BK110.out 1).trans rfl, (blk_cell BK110.out 2).trans rfl, (blk_cell BK110.out 3).trans rfl, (blk_cell BK110.out 4).trans rfl, hx113_0, hx113_1⟩ (fun hHeld => ?_)
                 generalize w30.drew = w31 at HO_5 BK101 BK110 BK112 HB hx113_0 hx113_1 hHeld ⊢
                 refine pure_ (i := 1) (N := some 45) (v := ?_) (a' := ?_) #[false, true, false, false, false, false, false] rfl rfl (by kernel_rfl) (fun _ _ _ h => h) (Or.inl ⟨by rfl, ?_⟩) ?_ ?_
                 rotate_left
                 ·
                  intro w'
                  go_simp
                  with_reducible rfl
                 rotate_left
                 ·
                  simp only [Act.put, List.setIfInBounds_toArray, List.set_cons_zero, List.set_cons_succ, i64_w, i32_w]
                  rfl
                 refine pure_ (i := 2) (N := some 46) (v := ?_) (a' := ?_) #[false, true, true, false, false, false, false] rfl rfl (by kernel_rfl) (fun _ _ _ h => h) (Or.inl ⟨by rfl, ?_⟩) ?_ ?_
                 rotate_left
                 ·
                  intro w'
                  go_simp
                  with_reducible rfl
                 rotate_left
                 ·
                  simp only [Act.put, List.setIfInBounds_toArray, List.set_cons_zero, List.set_cons_succ, i64_w, i32_w]
                  rfl
                 refine take_ (i := 0) (N := some 44) (v := ?_) (a' := ?_) #[true, true, true, false, false, false, false] rfl rfl (by kernel_rfl) (fun _ _ _ h => h) (Or.inl ⟨by rfl, ?_⟩) hHeld ?_ ?_
                 rotate_left
                 ·
                  rintro w' ⟨s0, s1, s2, s3, s4, s5, s6, s7, s8⟩
                  go_simp
                  with_reducible rfl
                 rotate_left
                 ·
                  simp only [Act.put, List.setIfInBounds_toArray, List.set_cons_zero, List.set_cons_succ, i64_w, i32_w]
                  rfl
                 refine take_ (i := 3) (N := some 47) (v := ?_) (a' := ?_) #[true, true, true, true, false, false, false] rfl rfl (by kernel_rfl) (fun _ _ _ h => h) (Or.inl ⟨by rfl, ?_⟩) hHeld ?_ ?_
                 rotate_left
                 ·
                  rintro w' ⟨s0, s1, s2, s3, s4, s5, s6, s7, s8⟩
                  go_simp
                  with_reducible rfl
                 rotate_left
                 ·
                  simp only [Act.put, List.setIfInBounds_toArray, List.set_cons_zero, List.set_cons_succ, i64_w, i32_w]
                  rfl
                 refine pure_ (i := 4) (N := some 48) (v := ?_) (a' := ?_) #[true, true, true, true, true, false, false] rfl rfl (by kernel_rfl) (fun _ _ _ h => h) (Or.inl ⟨by rfl, ?_⟩) ?_ ?_
                 rotate_left
                 ·
                  intro w'
                  go_simp
                  with_reducible rfl
                 rotate_left
                 ·
                  simp only [Act.put, List.setIfInBounds_toArray, List.set_cons_zero, List.set_cons_succ, i64_w, i32_w]
                  rfl
                 refine take_ (i := 5) (N := some 49) (v := ?_) (a' := ?_) #[true, true, true, true, true, true, false] rfl rfl (by kernel_rfl) (fun _ _ _ h => h) (Or.inl ⟨by rfl, ?_⟩) hHeld ?_ ?_
                 rotate_left
                 ·
                  rintro w' ⟨s0, s1, s2, s3, s4, s5, s6, s7, s8⟩
                  go_simp
                  with_reducible rfl
                 rotate_left
                 ·
                  simp only [Act.put, List.setIfInBounds_toArray, List.set_cons_zero, List.set_cons_succ, i64_w, i32_w]
                  rfl
                 refine one_ (i := 6) (N := some 50) #[true, true, true, true, true, true, true] rfl rfl (by kernel_rfl) (by decide) (fun K hK => ?_)
                 refine goes_ Try.func173 (by kernel_rfl) rfl #[.agg #[.int .i64 (wrap64 (((rd_T135 x5_2 ((rd_T33 l0_1 x23_2).f1)).f0) + ((rd_T33 l0_1 x23_2).f2))), .int .i64 (wrap64 (((rd_T135 x5_2 ((rd_T33 l0_1 x23_2).f1)).f1) + 1))], .agg #[.int .i64 ((rd_T135 x5_2 ((rd_T33 l0_1 x23_2).f0)).f0), .int .i64 ((rd_T135 x5_2 ((rd_T33 l0_1 x23_2).f0)).f1)]] (by rfl) rfl rfl ul ?_
                 with_reducible refine (impl_measure_less.calls (wrap64 (((rd_T135 x5_2 ((rd_T33 l0_1 x23_2).f1)).f0) + ((rd_T33 l0_1 x23_2).f2))) (wrap64 (((rd_T135 x5_2 ((rd_T33 l0_1 x23_2).f1)).f1) + 1)) ((rd_T135 x5_2 ((rd_T33 l0_1 x23_2).f0)).f0) ((rd_T135 x5_2 ((rd_T33 l0_1 x23_2).f0)).f1) false _ A32.out).mono ?_
                 rintro e w32 ⟨rfl, hb⟩
                 have HS7_ := (hb.cell (World.block_lt_of_cell? _ _ (hHeld.2.2.2.2.2.2.2.1))).trans (hHeld.2.2.2.2.2.2.2.1)
                 have HS8_ := (hb.cell (World.block_lt_of_cell? _ _ (hHeld.2.2.2.2.2.2.2.2))).trans (hHeld.2.2.2.2.2.2.2.2)
                 refine ⟨_, rfl, ?_⟩
                 have n0_ := Aside0.mk (Kd.R_below (ur HO_5) hb)
                 have n1_ := Aside0.mk (blk_below (g := gb101) (o := .cells #[.int .i64 a0_0, .slice (some ad109) l0_1.length c0_1] 25 (0, 0)) (ub BK101) hb)
                 have n2_ := Aside0.mk (blk_below (g := gb110) (o := .cells #[.int .i64 ((rd_T33 l0_1 x23_2).f0), .int .i64 ((rd_T33 l0_1 x23_2).f1), .int .i64 ((rd_T33 l0_1 x23_2).f2), .int .i64 ((rd_T33 l0_1 x23_2).f3), .int .i64 ((rd_T33 l0_1 x23_2).f4)] 33 (0, 0)) (ub BK110) hb)
                 have n3_ := Aside0.mk (blk_below (g := gb112) (o := .cells #[.int .i64 (wrap64 (((rd_T135 x5_2 ((rd_T33 l0_1 x23_2).f1)).f0) + ((rd_T33 l0_1 x23_2).f2))), .int .i64 (wrap64 (((rd_T135 x5_2 ((rd_T33 l0_1 x23_2).f1)).f1) + 1))] 135 (0, 0)) (ub BK112) hb)
                 have n4_ := Aside0.mk (below_step (uB3 HB GE101.out GE110.out GE112.out) hb)
                 clear HO_5
                 clear BK101
                 clear BK110
                 clear BK112
                 clear HB
                 have HO_5 := n0_
                 have BK101 := n1_
                 have BK110 := n2_
                 have BK112 := n3_
                 have HB := n4_
                 clear n0_ n1_ n2_ n3_ n4_
                 (try clear hb)
                 (try clear hb2)
                 (try clear hk)
                 (try clear hi)
                 refine hK.out _ _ ⟨(blk_cell BK112.out 0).trans rfl, (blk_cell BK112.out 1).trans rfl, (blk_cell BK110.out 0).trans rfl, (blk_cell BK110.out 1).trans rfl, (blk_cell BK110.out 2).trans rfl, (blk_cell BK110.out 3).trans rfl, (blk_cell BK110.out 4).trans rfl, HS7_, HS8_⟩ (fun hHeld => ?_)
                 clear hK K
                 refine norm_ (a' := ?_) ?_ ?_
                 rotate_left
                 ·
                  show Act.put _ (some 50) _ = _
                  simp only [Act.put, List.setIfInBounds_toArray, List.set_cons_zero, List.set_cons_succ, i64_w, i32_w]
                  rfl
                 refine done_ (by kernel_rfl) ?_
                 try go_wp2
                 (try simp only [← hl5_2])
                 go_roundg k2
                 case measure => have := HK1.out; have := HK2.out; omega
                 case rel => exact ⟨(x5_2), (x6_2), (wrap64 (x23_2 + 1)), ue, ue, H', ⟨by have := HK1.out; have := HK2.out; omega⟩, ⟨by (try simp only [hl5_1]); (try simp only [hl5_2]); (with_reducible repeat (first | apply Kd.R_alloc | apply Kd.R_drewN | apply Kd.R_drew)); exact Kd.R_mono HO_5.out (fun _ hk => trivial)⟩, ⟨by (try simp only [hl5_1]); (try simp only [hl5_2]); exact ub BK101⟩, ⟨uB3 HB GE101.out GE110.out GE112.out⟩⟩
               ·
                rw [if_neg c31] at H
                exact absurd H (by simp)
              ·
               rw [if_neg c30] at H
               exact absurd H (by simp)
            ·
             rw [if_neg c21] at H
             exact absurd H (by simp)
           ·
            rw [if_neg c20] at H
            exact absurd H (by simp)
          ·
           rw [if_neg c19] at H
           exact absurd H (by simp)
         ·
          rw [if_neg c18] at H
          exact absurd H (by simp)
        ·
         rw [if_neg c17] at H
         have c17b0 : decide (x23_2 < (l0_1.length : Int)) = false := decide_eq_false c17
         clear c17
         have H' := Aside0.mk H
         clear H
         go_wp2
         (try simp only [← hl5_1, ← hl5_2])
         go_roundg k2
         case measure => have := HK1.out; have := HK2.out; omega
         case rel => exact ⟨(x5_2), (x6_2), ue, H', ⟨by have := HK1.out; have := HK2.out; omega⟩, ⟨by (try simp only [hl5_1]); (try simp only [hl5_2]); exact ur HO_5⟩, ⟨by (try simp only [hl5_1]); (try simp only [hl5_2]); exact ub BK101⟩, ⟨uB1 HB GE101.out⟩⟩
     ·
      replace c15 := Bool.eq_false_iff.mpr c15
      subst c15
      have H1 : (some x5_1) = some r := by rw [if_neg (show ¬ (false = true) by decide)] at H; exact H
      clear H
      have H := H1
      clear H1
      obtain rfl := Option.some.inj H
      go_wp2
      go_ret
      exact ⟨_, by first | rfl | (simp [errW_none, errW_some] <;> rfl) | (simp [*, errW_none, errW_some] <;> rfl), by (with_reducible repeat (first | apply Kd.R_alloc | apply Kd.R_drewN | apply Kd.R_drew)); exact HO_5.out, by repeat (first | (with_reducible first | exact HB.out | apply below_alloc | apply pw_below_drewN | apply below_drew1 | refine below_set ?_ GE101.out) | exact HB.out)⟩
  ·
   rw [if_neg c5] at H
   exact absurd H (by simp)
 ·
  rw [if_neg c4] at H
  exact absurd H (by simp)

end Go.Proofs.Ytjmpngfgfddpaaa.P
