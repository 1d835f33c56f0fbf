/- Contracts: spec.l12Way, by hand: it reads the list (the printed one would own it). -/
import Derived.Test.YtblpdfgplifccaaHUp
import Derived.Test.YtblpdfgplifccaaHNet
import Derived.Test.YtblpdfgplifccaaPFSpecL3All
set_option linter.unusedVariables false
set_option linter.unusedSimpArgs false
namespace Go.Proofs.Ytblpdfgplifccaa.P
open Go.RowKit Go.Proofs.YtblpdfgplifccaaV.PrintWords Go.Proofs.YtblpdfgplifccaaV.PrintLast Go.Proofs.YtblpdfgplifccaaV.PrintMore
mutual
def spec_l12Way.j0 : Nat → List Int → Int → Int → List (S33) → Option (Int)
 | 0, _, _, _, _ => none
 | k + 1, x1, x2, x102000, x102001 => spec_l12Way.l0 k x1 x2 99999 0 x102000 x102001
def spec_l12Way.l0 : Nat → List Int → Int → Int → Int → Int → List (S33) → Option (Int)
 | 0, _, _, _, _, _, _ => none
 | k + 1, x1, x2, x7, x8, x102000, x102001 => if x8 < (x1.length : Int) then (if 0 ≤ x8 then ((spec_l3All.f k x102000 x102001 (rd x1 x8)).bind fun t106 => (if 0 ≤ x2 then (if x2 < (t106.length : Int) then (if (rd t106 x2) < x7 then (spec_l12Way.l0 k x1 x2 (rd t106 x2) (wrap64 (x8 + 1)) x102000 x102001) else (spec_l12Way.l0 k x1 x2 x7 (wrap64 (x8 + 1)) x102000 x102001)) else (none)) else (none))) else (none)) else (if x7 = 99999 then (some 0) else (some x7))
end
def spec_l12Way.f (k : Nat) (a0_0 : Int) (l0_1 : List (S33)) (l1 : List Int) (a2 : Int) : Option (Int) := if (l1.length : Int) = 0 then (spec_l12Way.j0 k (([0] : List Int)) a2 a0_0 l0_1) else (spec_l12Way.j0 k l1 a2 a0_0 l0_1)
def spec_l12Way.T7 : Bool × List (List Nat × List Nat) := (true, [([], []), ([], []), ([], []), ([1, 2], [1, 2]), ([3], [3]), ([0, 4], [0, 4]), ([], []), ([5, 6], [5, 6]), ([7], [7]), ([8, 5, 0, 1, 2, 3, 4, 5, 6, 7, 8], [8])])
def spec_l12Way.B7 : List Nat := [0, 0, 0, 6, 14, 31, 0, 127, 255, 511]
theorem spec_l12Way.tab7 : rtab .any (opsOf Try.f84 7) = spec_l12Way.T7 := by kernel_rfl
theorem spec_l12Way.bits7 : waitsOk spec_l12Way.T7.2 spec_l12Way.B7 = true := by kernel_rfl
set_option maxHeartbeats 8000000 in
set_option maxRecDepth 100000 in
theorem spec_l12Way.calls (k : Nat) (a0_0 : Int) (A0_1 : Option Addr) (c0_1 : Nat) (l0_1 : List (S33)) (A1 : Option Addr) (c1 : Nat) (l1 : List Int) (a2 : Int) (r : Int) (w : World) (hr0_1 : Kd.C k33 w A0_1 l0_1.length l0_1) (hc0_1 : l0_1.length ≤ c0_1) (hr1 : Kd.C (Kd.int .i64) w A1 l1.length l1) (hc1 : l1.length ≤ c1) (h : spec_l12Way.f k a0_0 l0_1 l1 a2 = some r) :
    Calls Try.prog 84 #[.agg #[.int .i64 a0_0, .slice A0_1 l0_1.length c0_1], .slice A1 l1.length c1, .int .i64 a2] w fun e w' => e = .returned (.int .i64 r) ∧ Below w.heap.size w w' := by
  have hu25 := Try.underlying25
  have HR0_1 := Aside0.mk hr0_1
  have HC0_1 := Aside0.mk hc0_1
  have HR1 := Aside0.mk hr1
  clear hr0_1 hc0_1 hr1 hc1
  have HB := Aside0.mk (Below.refl w.heap.size w)
  have H : (if (l1.length : Int) = 0 then (spec_l12Way.j0 k (([0] : List Int)) a2 a0_0 l0_1) else (spec_l12Way.j0 k l1 a2 a0_0 l0_1)) = some r := h
  clear h
  have HC4 := Aside0.mk H
  clear H
  go_enter Try.func84, Try.ntmps84
  go_upto_if 12 with ((with_reducible refine gate_dst (N := 3) rfl ?_); refine be (cs := #[.int .i64 a0_0, .slice A0_1 l0_1.length c0_1]) (t := 25) ?_; intro gb101 hg w5 hbox hb; have BK101 := Aside0.mk hbox; have GE101 := gz w hg (uB0 HB); replace HB := Aside0.mk (below_step (uB0 HB) hb); clear hb hbox hg)
  (try simp only [Act.put, List.setIfInBounds_toArray, List.set_cons_zero, List.set_cons_succ])
  go_cut [1] (fun v1 wc => ∃ (kq : Nat) (x1_3 : List Int) (Ax : Option Addr) (cx : Nat), v1 = .slice Ax x1_3.length cx ∧ Aside0 (spec_l12Way.j0 kq x1_3 a2 a0_0 l0_1 = some r) ∧ Aside0 (kq ≤ k) ∧ Aside0 (Kd.C (Kd.int .i64) wc Ax x1_3.length x1_3) ∧ Aside0 (wc.heap[gb101]? = some (.cells #[.int .i64 a0_0, (.slice A0_1 l0_1.length c0_1)] 25 (0, 0))) ∧ Aside0 (Below w.heap.size w wc))
  case first =>
    have H := HC4.out
    clear HC4
    by_cases c7 : (l1.length : Int) = 0
    · rw [if_pos c7] at H
      obtain ⟨c7b0, c7b1⟩ := dq c7
      clear c7
      have H' := Aside0.mk H
      clear H
      obtain ⟨y102, hy102⟩ : ∃ y_ : List Int, y_ = (([0] : List Int)) := ⟨_, rfl⟩
      have HY := Aside0.mk hy102
      have HJ : Aside0 (spec_l12Way.j0 k y102 a2 a0_0 l0_1 = some r) := ⟨by rw [hy102]; exact H'.out⟩
      clear hy102 H'
      go_wp2_with ((with_reducible refine gate_dst (N := 13) rfl ?_); refine Kd.R_lit (Kd.int .i64) _ 3 ?hg (N := 13) ?hd (xs := ([0] : List Int)) (inner := [.int .i64 0]) (ok := fun _ => True) (okp := fun _ => True) ?hr ?hp (fun _ hk => hk) trivial (Below.refl _ _) (Nat.le_refl _) (by simp) ?_; (case hd => rfl); (case hg => rfl); (case hr => first | (go_simp; done) | (go_simp; rfl)); (case hp => exact (Reps.one (show Kd.M (Kd.int .i64) _ _ _ 0 [.int .i64 0] from rfl) (Reps.none _ _))); intro v103 w8 ho9 hb hg_ hnew_; rw [← HY.out] at ho9; obtain ⟨Al, cl, el⟩ := Kd.R_slice ho9; subst el; have HSC := Aside0.mk (Kd.R_reads' ho9).2.2; replace BK101 := bb BK101 hb; replace HB := Aside0.mk (below_step (uB1 HB GE101.out) hb); clear ho9 hb hg_ hnew_)
      go_meet
      case rel => exact ⟨k, y102, Al, cl, rfl, HJ, ⟨Nat.le_refl _⟩, HSC, BK101, HB⟩
    · rw [if_neg c7] at H
      obtain ⟨c7b0, c7b1⟩ := dQ c7
      have c7b2 : ¬ (l1 = []) := fun h_ => c7 (by rw [h_]; rfl)
      have H' := Aside0.mk H
      clear H
      go_wp2
      go_meet
      case rel => exact ⟨k, l1, A1, c1, rfl, H', ⟨Nat.le_refl _⟩, ⟨Kd.C_below HR1.out (uB1 HB GE101.out)⟩, ⟨ub BK101⟩, ⟨uB1 HB GE101.out⟩⟩
  case rest =>
    clear HC4 HR1
    obtain ⟨kq, x1_3, Ax, cx, rfl, HA, HJ3, HX, BK101, HB⟩ := hcut
    cases kq with
    | zero => exact absurd HA.out (by simp [spec_l12Way.j0])
    | succ kj3 =>
      have H := HA.out
      clear HA
      simp only [spec_l12Way.j0] at H
      have H' := Aside0.mk H
      clear H
      go_wp2
      go_loopg [7, 8] kj3 (fun kq v7 v8 w' => ∃ (x7_2 : Int) (x8_2 : Int), v7 = .int .i64 x7_2 ∧ v8 = .int .i64 x8_2 ∧ Aside0 (spec_l12Way.l0 kq x1_3 a2 x7_2 x8_2 a0_0 l0_1 = some r) ∧ Aside0 (kq ≤ kj3) ∧ Aside0 (Kd.C (Kd.int .i64) w' Ax x1_3.length x1_3) ∧ Aside0 (w'.heap[gb101]? = some (.cells #[.int .i64 a0_0, (.slice A0_1 l0_1.length c0_1)] 25 (0, 0))) ∧ Aside0 (Below w.heap.size w w'))
      case atStart => exact ⟨(99999), (0), ue, ue, H', ⟨Nat.le_refl _⟩, HX, BK101, HB⟩
      case round =>
        clear H' HX BK101 HB
        obtain ⟨x7_2, x8_2, rfl, rfl, HA, HK2, HX, BK101, HB⟩ := hrel
        cases gk with
        | zero => exact absurd HA.out (by simp [spec_l12Way.l0])
        | succ k2 =>
          have H := HA.out
          clear HA
          simp only [spec_l12Way.l0] at H
          by_cases c10 : x8_2 < (x1_3.length : Int)
          · rw [if_pos c10] at H
            have c10b0 := dl c10
            by_cases c11 : 0 ≤ x8_2
            · rw [if_pos c11] at H
              have c11b0 := de c11
              obtain ⟨t106, A120, H⟩ := Option.bind_eq_some_iff.mp H
              have A12 := Aside0.mk A120
              clear A120
              by_cases c13 : 0 ≤ a2
              · rw [if_pos c13] at H
                by_cases c14 : a2 < (t106.length : Int)
                · rw [if_pos c14] at H
                  have pi109 : (0 ≤ (a2 : Int)) = True := eq_true c13
                  have qi109 : (a2 < (t106.length : Int)) = True := eq_true c14
                  have c13b0 := de c13
                  have c14b0 := dl c14
                  obtain ⟨x7n, hx7n⟩ : ∃ x7n, x7n = (if (rd t106 a2) < x7_2 then rd t106 a2 else x7_2) := ⟨_, rfl⟩
                  replace H : spec_l12Way.l0 k2 x1_3 a2 x7n (wrap64 (x8_2 + 1)) a0_0 l0_1 = some r := by
                    rw [hx7n]
                    by_cases c15 : (rd t106 a2) < x7_2
                    · rw [if_pos c15] at H; rw [if_pos c15]; exact H
                    · rw [if_neg c15] at H; rw [if_neg c15]; exact H
                  have H' := Aside0.mk H
                  have H7 := Aside0.mk hx7n
                  have p105 : 0 ≤ (x8_2 : Int) := c11
                  have q105 : x8_2 < (x1_3.length : Int) := c10
                  clear H hx7n c10 c11 c13 c14
                  try go_wp2
                  replace HX := Aside0.mk (Kd.C_drew HX.out)
                  replace BK101 := Aside0.mk (blk_drew BK101.out)
                  replace HB := Aside0.mk (below_drew1 HB.out)
                  obtain ⟨ad105, e105, hx105_0⟩ := Kd.at_int HX.out x8_2 p105 q105
                  cases e105
                  replace p105 := eq_true p105
                  replace q105 := eq_true q105
                  refine start_ (n := 10) (S := fun w' => w'.cell? ⟨gb101, 0, none⟩ = some (.int .i64 a0_0) ∧ w'.cell? ⟨gb101, 1, none⟩ = some (.slice A0_1 l0_1.length c0_1) ∧ w'.cell? (ad105.add (x8_2).toNat) = some (.int .i64 (rd x1_3 x8_2))) (ds := []) (zt 10 0) (by kernel_rfl) rfl (by kernel_rfl) (b2x BK101 hx105_0) (fun hHeld => ?_); refine with_tabW spec_l12Way.tab7 spec_l12Way.bits7 (fun HT_ HW_ => ?_); generalize wr.drew = w17 at HX BK101 HB hx105_0 hHeld ⊢; refine qz HT_ 1 ?_; refine qz HT_ 2 ?_; refine qz HT_ 3 ?_; refine qz HT_ 6 ?_; refine qt HT_ HW_ hHeld 0 ?_; refine qt HT_ HW_ hHeld 4 ?_; refine qo HT_ 5 (fun K hK => ?_); refine goes_ Try.func87 (by kernel_rfl) rfl #[.agg #[.int .i64 a0_0, .slice A0_1 l0_1.length c0_1], .int .i64 (rd x1_3 x8_2)] (by rfl) rfl rfl ul ?_; with_reducible refine (spec_l3All.calls k2 a0_0 _ _ l0_1 (rd x1_3 x8_2) t106 _ ?side1 ?side2 A12.out).mono ?_
                  (case side1 => exact Kd.C_below HR0_1.out HB.out)
                  (case side2 => exact HC0_1.out)
                  rintro e w18 ⟨v107, rfl, ho0, hb⟩
                  have HS2_ := (hb.cell (World.block_lt_of_cell? _ _ (hHeld.2.2))).trans (hHeld.2.2)
                  refine ⟨_, rfl, ?_⟩
                  have HO108 := Aside0.mk ho0
                  replace HX := Aside0.mk (Kd.C_below HX.out hb)
                  replace BK101 := bb BK101 hb
                  replace HB := Aside0.mk (below_step HB.out hb)
                  clear hb ho0
                  obtain ⟨Ao19, co19, eo19⟩ := Kd.R_slice HO108.out
                  subst eo19
                  obtain ⟨ado19, fo19, _⟩ := Kd.at_int (Kd.R_reads' HO108.out).2.2 0 (by decide) (by have h1_ := of_eq_true pi109; have h2_ := of_eq_true qi109; omega)
                  cases fo19
                  refine hK.out _ _ (b2x BK101 HS2_) (fun hHeld => ?_); clear hK K; refine nz ?_
                  refine qz HT_ 7 ?_; refine qo HT_ 8 (fun K hK => ?_); (have p109 : 0 ≤ (a2 : Int) := ua; have q109 : a2 < (t106.length : Int) := ua; obtain ⟨ad109, e109, hx109_0⟩ := Kd.at_int (Kd.R_reads' HO108.out).2.2 a2 p109 q109; obtain rfl : ado19 = ad109 := (by injection e109)); refine value_ (w1 := ?_) (v := ?_) (by rfl) rfl ?_ ?_; rotate_left 2
                  · go_simp
                    constructor
                    · rfl
                    · rfl
                  clear hx109_0; refine hK.out _ _ (b2x BK101 hHeld.2.2) (fun hHeld => ?_); clear hK K; refine nz ?_
                  refine qz HT_ 9 ?_; refine done_ (done_of HT_.out (by kernel_rfl)) ?_
                  by_cases c15 : (rd t106 a2) < x7_2
                  · have c15b0 := dl c15
                    have HE : Aside0 (x7n = rd t106 a2) := ⟨by rw [H7.out, if_pos c15]⟩
                    clear c15
                    try go_wp2
                    go_roundg k2
                    case measure => have := HJ3.out; have := HK2.out; omega
                    case rel => exact ⟨(rd t106 a2), (wrap64 (x8_2 + 1)), ue, ue, ⟨by rw [← HE.out]; exact H'.out⟩, ⟨by have := HJ3.out; have := HK2.out; omega⟩, HX, BK101, HB⟩
                  · have c15b0 := DL c15
                    have HE : Aside0 (x7n = x7_2) := ⟨by rw [H7.out, if_neg c15]⟩
                    clear c15
                    try go_wp2
                    go_roundg k2
                    case measure => have := HJ3.out; have := HK2.out; omega
                    case rel => exact ⟨x7_2, (wrap64 (x8_2 + 1)), ue, ue, ⟨by rw [← HE.out]; exact H'.out⟩, ⟨by have := HJ3.out; have := HK2.out; omega⟩, HX, BK101, HB⟩
                · rw [if_neg c14] at H; exact absurd H (by simp)
              · rw [if_neg c13] at H; exact absurd H (by simp)
            · rw [if_neg c11] at H; exact absurd H (by simp)
          · rw [if_neg c10] at H
            have c10b0 := DL c10
            clear c10
            by_cases c24 : x7_2 = 99999
            · rw [if_pos c24] at H
              obtain ⟨c24b0, c24b1⟩ := dq c24
              clear c24
              obtain rfl := Option.some.inj H
              go_wp2; go_ret; exact ⟨ux, uB1 HB GE101.out⟩
            · rw [if_neg c24] at H
              obtain ⟨c24b0, c24b1⟩ := dQ c24
              obtain rfl := Option.some.inj H
              go_wp2; go_ret; exact ⟨ux, uB1 HB GE101.out⟩
end Go.Proofs.Ytblpdfgplifccaa.P
