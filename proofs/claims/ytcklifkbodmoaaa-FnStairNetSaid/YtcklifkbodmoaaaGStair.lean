-- written for this claim by a program (wip/gen/myprint.py over the print tool). Not trusted: Lean checks it.
import Derived.Test.YtcklifkbodmoaaaPx0
import Derived.Test.YtcklifkbodmoaaaHUp
import Derived.Test.YtcklifkbodmoaaaGPBase
namespace Go.Proofs.Ytcklifkbodmoaaa.P
open Go.RowKit Go.Proofs.YtcklifkbodmoaaaV.PrintWords Go.Proofs.YtcklifkbodmoaaaV.PrintLast
set_option linter.unusedVariables false
set_option linter.unusedSimpArgs false

/-! ### impl_arrival: function 87 -/
def impl_arrival.l0 : Nat → Int → List (S66) → Int → Int → Option (Int)
 | 0, _, _, _, _ => none
 | k + 1, x1, x7, x8, x9 => if x9 < x8 then (if 0 ≤ x9 then (if x9 < (x7.length : Int) then (if ((rd_T66 x7 x9).f0) ≥ x1 then (some ((rd_T66 x7 x9).f1)) else (impl_arrival.l0 k x1 x7 x8 (wrap64 (x9 + 1)))) else (none)) else (none)) else (some 99999)
def impl_arrival.f (k : Nat) (l0 : List (S66)) (a1 : Int) : Option (Int) := impl_arrival.l0 k a1 l0 (l0.length : Int) 0
set_option maxHeartbeats 8000000 in
set_option maxRecDepth 100000 in
theorem impl_arrival.calls (k : Nat) (A0 : Option Addr) (c0 : Nat) (l0 : List (S66)) (a1 : Int) (r : Int) (w : World) (hr0 : Kd.C k66 w A0 l0.length l0) (hc0 : l0.length ≤ c0) (h : impl_arrival.f k l0 a1 = some r) :
  Calls Try.prog 87 #[.slice A0 l0.length c0, .int .i64 a1] w fun e w' => e = .returned (.int .i64 r) ∧ Below w.heap.size w w' := by
 have hu66 := Try.underlying66
 have HR0 := Aside0.mk hr0
 have HC0 := Aside0.mk hc0
 clear hr0 hc0
 have HB := Aside0.mk (Below.refl w.heap.size w)
 have H : (impl_arrival.l0 k a1 l0 (l0.length : Int) 0) = some r := h
 clear h
 have H' := Aside0.mk H
 clear H
 go_enter Try.func87, Try.ntmps87
 go_wp2
 go_loopg [9] k (fun kq v9 w' => ∃ (x9_1 : Int), v9 = .int .i64 x9_1 ∧ Aside0 (impl_arrival.l0 kq a1 l0 (l0.length : Int) x9_1 = some r) ∧ Aside0 (kq ≤ k) ∧ Aside0 (Below w.heap.size w w'))
 case atStart => exact ⟨(0), ue, H', ⟨Nat.le_refl _⟩, ⟨uB0 HB⟩⟩
 case round =>
  clear H'; try clear p2
  obtain ⟨x9_1, rfl, HA, HK1, HB⟩ := hrel
  cases gk with
  | zero => exact absurd HA.out (by simp [impl_arrival.l0])
  | succ k1 =>
   have H := HA.out; clear HA; simp only [impl_arrival.l0] at H; by_cases c3 : x9_1 < (l0.length : Int)
   ·
    rw [if_pos c3] at H; have c3b0 := dl c3; clear c3; by_cases c4 : 0 ≤ x9_1
    ·
     rw [if_pos c4] at H; have c4b0 := de c4; clear c4; by_cases c5 : x9_1 < (l0.length : Int)
     ·
      rw [if_pos c5] at H; have c5b0 := dl c5; clear c5; have HH_ := Aside0.mk H; clear H; have p101 : 0 ≤ (x9_1 : Int) := ua; have q101 : x9_1 < (l0.length : Int) := ua; obtain ⟨ad101, e101, hx101_0, hx101_1⟩ := at_T66 HR0.out x9_1 p101 q101
      cases e101
      replace hx101_0 := uc HB hx101_0; replace hx101_1 := uc HB hx101_1; replace p101 := eq_true p101; replace q101 := eq_true q101; go_upto_region 4 with (first | ((with_reducible refine gate_dst (N := 6) rfl ?_); refine be (cs := #[.int .i64 0, .int .i64 0]) (t := 66) ?_; intro gb102 hg w6 hbox hb; have BK102 := Aside0.mk (hbox); have GW102 := gz w hg (uB0 HB); have GE102 := gz w hg (uB0 HB); replace HB := Aside0.mk (below_step (uB0 HB) hb); clear hb hbox hg; obtain ⟨hcz7_0, hcz7_1, hfz7_0, hfz7_1⟩ := bc2 BK102))
      have H := HH_.out; clear HH_; by_cases c8 : ((rd_T66 l0 x9_1).f0) ≥ a1
      ·
       rw [if_pos c8] at H; have c8b0 := de c8; clear c8; obtain rfl := Option.some.inj H; go_wp2; go_ret; exact ⟨ux, uB1 HB GE102.out⟩
      ·
       rw [if_neg c8] at H; have c8b0 := DE c8; clear c8; have H' := Aside0.mk H; clear H; go_wp2; go_roundg k1
       case measure => have := HK1.out; omega
       case rel => exact ⟨(wrap64 (x9_1 + 1)), ue, H', ⟨by have := HK1.out; omega⟩, ⟨uB1 HB GE102.out⟩⟩
     ·
      rw [if_neg c5] at H; exact absurd H (by simp)
    ·
     rw [if_neg c4] at H; exact absurd H (by simp)
   ·
    rw [if_neg c3] at H; have c3b0 := DL c3; clear c3; obtain rfl := Option.some.inj H; go_wp2; go_ret; exact ⟨ux, uB0 HB⟩

end Go.Proofs.Ytcklifkbodmoaaa.P
namespace Go.Proofs.Ytcklifkbodmoaaa.P
open Go.RowKit Go.Proofs.YtcklifkbodmoaaaV.PrintWords Go.Proofs.YtcklifkbodmoaaaV.PrintLast
set_option linter.unusedVariables false
set_option linter.unusedSimpArgs false

/-! ### impl_StairOk: function 53 -/
def impl_StairOk.l0 : Nat → List (S66) → List (S66) → Int → Int → Option (Bool)
 | 0, _, _, _, _ => none
 | k + 1, x0, x5, x6, x7 => if x7 < x6 then (if 0 ≤ x7 then (if x7 < (x5.length : Int) then ((impl_Step_valid.f ((rd_T66 x5 x7).f0) ((rd_T66 x5 x7).f1)).bind fun t103 => (if t103 = true then (if x7 > 0 then (if 0 ≤ (wrap64 (x7 - 1)) then (if (wrap64 (x7 - 1)) < (x0.length : Int) then (if ((rd_T66 x0 (wrap64 (x7 - 1))).f0) ≥ ((rd_T66 x5 x7).f0) then (some false) else (if ((rd_T66 x0 (wrap64 (x7 - 1))).f1) ≥ ((rd_T66 x5 x7).f1) then (some false) else (impl_StairOk.l0 k x0 x5 x6 (wrap64 (x7 + 1))))) else (none)) else (none)) else (impl_StairOk.l0 k x0 x5 x6 (wrap64 (x7 + 1)))) else (some false))) else (none)) else (none)) else (some (decide ((x0.length : Int) ≤ 12)))
def impl_StairOk.f (k : Nat) (l0 : List (S66)) : Option (Bool) := impl_StairOk.l0 k l0 l0 (l0.length : Int) 0
def impl_StairOk.T4 : Bool × List (List Nat × List Nat) := (true, [([], []), ([0], [0]), ([1], [1]), ([2, 1], [2]), ([3], [3]), ([4, 3], [3, 4]), ([5, 3, 3], [3, 5]), ([6], [6]), ([6], [6]), ([8, 6], [6, 8]), ([7, 9, 6], [6, 7, 9]), ([10, 6], [6, 10]), ([11, 6], [6, 11]), ([6], [6]), ([13, 6], [6, 13]), ([12, 14, 6], [6, 12, 14]), ([15, 6, 6], [6, 15]), ([16], [16]), ([16], [16]), ([18, 16], [16, 18]), ([17, 19, 16], [16, 17, 19]), ([20, 16], [16, 20]), ([21, 16], [16, 21]), ([16], [16]), ([23, 16], [16, 23]), ([22, 24, 16], [16, 22, 24]), ([16, 25, 6], [6, 16, 25]), ([6, 26, 3], [3, 6, 26]), ([3, 27], [3, 27])])
def impl_StairOk.B4 : List Nat := [0, 1, 3, 7, 15, 31, 63, 127, 127, 383, 1023, 2047, 4095, 127, 8319, 32767, 65535, 131071, 131071, 393215, 1048575, 2097151, 4194303, 131071, 8519679, 33554431, 67108863, 134217727, 268435455]
theorem impl_StairOk.tab4 : rtab .any (opsOf Try.f53 4) = impl_StairOk.T4 := by kernel_rfl
theorem impl_StairOk.bits4 : waitsOk impl_StairOk.T4.2 impl_StairOk.B4 = true := by kernel_rfl
set_option maxHeartbeats 8000000 in
set_option maxRecDepth 100000 in
theorem impl_StairOk.calls (k : Nat) (A0 : Option Addr) (c0 : Nat) (l0 : List (S66)) (r : Bool) (w : World) (hr0 : Kd.C k66 w A0 l0.length l0) (hc0 : l0.length ≤ c0) (h : impl_StairOk.f k l0 = some r) :
  Calls Try.prog 53 #[.slice A0 l0.length c0] w fun e w' => e = .returned (.bool r) ∧ Below w.heap.size w w' := by
 have hu66 := Try.underlying66
 have HR0 := Aside0.mk hr0
 have HC0 := Aside0.mk hc0
 clear hr0 hc0
 have HB := Aside0.mk (Below.refl w.heap.size w)
 have H : (impl_StairOk.l0 k l0 l0 (l0.length : Int) 0) = some r := h
 clear h
 have H' := Aside0.mk H
 clear H
 go_enter Try.func53, Try.ntmps53
 go_wp2
 go_loopg [7] k (fun kq v7 w' => ∃ (x7_1 : Int), v7 = .int .i64 x7_1 ∧ Aside0 (impl_StairOk.l0 kq l0 l0 (l0.length : Int) x7_1 = some r) ∧ Aside0 (kq ≤ k) ∧ Aside0 (Below w.heap.size w w'))
 case atStart => exact ⟨(0), ue, H', ⟨Nat.le_refl _⟩, ⟨uB0 HB⟩⟩
 case round =>
  clear H'; obtain ⟨x7_1, rfl, HA, HK1, HB⟩ := hrel
  cases gk with
  | zero => exact absurd HA.out (by simp [impl_StairOk.l0])
  | succ k1 =>
   have H := HA.out; clear HA; simp only [impl_StairOk.l0] at H; by_cases c2 : x7_1 < (l0.length : Int)
   ·
    rw [if_pos c2] at H; have c2b0 := dl c2; clear c2; by_cases c3 : 0 ≤ x7_1
    ·
     rw [if_pos c3] at H; have c3b0 := de c3; clear c3; by_cases c4 : x7_1 < (l0.length : Int)
     ·
      rw [if_pos c4] at H; have c4b0 := dl c4; clear c4; replace H := Option.bind_eq_some_iff.mp H; obtain ⟨t103, A50, H⟩ := H; replace H : (if t103 = true then (if x7_1 > 0 then (if 0 ≤ (wrap64 (x7_1 - 1)) then (if (wrap64 (x7_1 - 1)) < (l0.length : Int) then (if ((rd_T66 l0 (wrap64 (x7_1 - 1))).f0) ≥ ((rd_T66 l0 x7_1).f0) then (some false) else (if ((rd_T66 l0 (wrap64 (x7_1 - 1))).f1) ≥ ((rd_T66 l0 x7_1).f1) then (some false) else (impl_StairOk.l0 k1 l0 l0 (l0.length : Int) (wrap64 (x7_1 + 1))))) else (none)) else (none)) else (impl_StairOk.l0 k1 l0 l0 (l0.length : Int) (wrap64 (x7_1 + 1)))) else (some false)) = some r := H; have A5 := Aside0.mk A50; clear A50; by_cases c6 : t103 = true
      ·
       subst c6; rw [if_pos rfl] at H; by_cases c7 : x7_1 > 0
       ·
        rw [if_pos c7] at H; have c7b0 := dl c7; clear c7; obtain ⟨ji8, hji8⟩ : ∃ j_ : Int, (wrap64 (x7_1 - 1)) = j_ := ⟨_, rfl⟩
        replace H : (if 0 ≤ (ji8) then (if (ji8) < (l0.length : Int) then (if ((rd_T66 l0 (ji8)).f0) ≥ ((rd_T66 l0 x7_1).f0) then (some false) else (if ((rd_T66 l0 (ji8)).f1) ≥ ((rd_T66 l0 x7_1).f1) then (some false) else (impl_StairOk.l0 k1 l0 l0 (l0.length : Int) (wrap64 (x7_1 + 1))))) else (none)) else (none)) = some r := by first | (rw [hji8] at H; exact H) | (simp only [hji8] at H ⊢; exact H)
        (try rw [hji8] at A5); have hji8w : (IntKind.i64.wrap (x7_1 - 1)) = ji8 := (i64_w _).trans hji8; by_cases c9 : 0 ≤ (ji8)
        ·
         rw [if_pos c9] at H; have c9b0 := de c9; clear c9; by_cases c10 : (ji8) < (l0.length : Int)
         ·
          rw [if_pos c10] at H; have c10b0 := dl c10; clear c10; by_cases c11 : ((rd_T66 l0 (ji8)).f0) ≥ ((rd_T66 l0 x7_1).f0)
          ·
           rw [if_pos c11] at H; have c11b0 := de c11; clear c11; obtain rfl := Option.some.inj H; have p101 : 0 ≤ (x7_1 : Int) := ua; have q101 : x7_1 < (l0.length : Int) := ua; obtain ⟨ad101, e101, hx101_0, hx101_1⟩ := at_T66 HR0.out x7_1 p101 q101
           cases e101
           replace hx101_0 := uc HB hx101_0; replace hx101_1 := uc HB hx101_1; replace p101 := eq_true p101; replace q101 := eq_true q101; try go_wp2_with (first | ((with_reducible refine gate_dst (N := 4) rfl ?_); refine be (cs := #[.int .i64 0, .int .i64 0]) (t := 66) ?_; intro gb102 hg w12 hbox hb; have BK102 := Aside0.mk (hbox); have GW102 := gz w hg (uB0 HB); have GE102 := gz w hg (uB0 HB); replace HB := Aside0.mk (below_step (uB0 HB) hb); clear hb hbox hg; obtain ⟨hcz13_0, hcz13_1, hfz13_0, hfz13_1⟩ := bc2 BK102))
           have n0_ : Aside0 (((w12.setCell ⟨gb102, 0, none⟩ (.int .i64 ((rd_T66 l0 x7_1).f0))).setCell ⟨gb102, 1, none⟩ (.int .i64 ((rd_T66 l0 x7_1).f1))).heap[gb102]? = some (.cells #[.int .i64 ((rd_T66 l0 x7_1).f0), .int .i64 ((rd_T66 l0 x7_1).f1)] 66 (0, 0))) := ⟨by (with_reducible repeat first | apply zbn | apply zbd | apply zba); refine pu2 (.int .i64 0) (.int .i64 0) ?_; exact ub BK102⟩
           have n1_ : Aside0 (Below w.heap.size w ((w12.setCell ⟨gb102, 0, none⟩ (.int .i64 ((rd_T66 l0 x7_1).f0))).setCell ⟨gb102, 1, none⟩ (.int .i64 ((rd_T66 l0 x7_1).f1)))) := ⟨uB1 HB GE102.out⟩
           (try clear BK102); (try clear HB); generalize ((w12.setCell ⟨gb102, 0, none⟩ (.int .i64 ((rd_T66 l0 x7_1).f0))).setCell ⟨gb102, 1, none⟩ (.int .i64 ((rd_T66 l0 x7_1).f1))) = w14 at n0_ n1_ ⊢; have BK102 := n0_; have HB := n1_; clear n0_ n1_; replace BK102 := Aside0.mk (blk_drew BK102.out); replace HB := Aside0.mk (below_drew1 HB.out); have p104 : 0 ≤ ((ji8) : Int) := ua; have q104 : (ji8) < (l0.length : Int) := ua; obtain ⟨ad104, e104, hx104_0, hx104_1⟩ := at_T66 HR0.out (ji8) p104 q104; have hw104_1 := hx104_1; have hw104_0 := hx104_0; obtain rfl : ad101 = ad104 := (by injection e104)
           replace hx104_0 := uc HB hx104_0; replace hx104_1 := uc HB hx104_1; replace p104 := eq_true p104; replace q104 := eq_true q104; refine start_ (n := 29) (S := fun w' => w'.cell? ⟨gb102, 0, none⟩ = some (.int .i64 ((rd_T66 l0 x7_1).f0)) ∧ w'.cell? ⟨gb102, 1, none⟩ = some (.int .i64 ((rd_T66 l0 x7_1).f1)) ∧ w'.cell? (ad101.add (((ji8)).toNat * 2)) = some (.int .i64 ((rd_T66 l0 (ji8)).f0)) ∧ w'.cell? ⟨(ad101.add (((ji8)).toNat * 2)).block, (ad101.add (((ji8)).toNat * 2)).off + 1, none⟩ = some (.int .i64 ((rd_T66 l0 (ji8)).f1))) (ds := []) (zt 29 0) (by kernel_rfl) rfl (by kernel_rfl) (b2x BK102 ⟨(ud HB hw104_0), (ud HB hw104_1)⟩) (fun hHeld => ?_); refine with_tabW impl_StairOk.tab4 impl_StairOk.bits4 (fun HT_ HW_ => ?_); generalize w14.drew = w15 at BK102 HB hx104_0 hx104_1 hHeld ⊢; refine qt HT_ HW_ hHeld 0 ?_; refine qo HT_ 1 (fun K hK => ?_); refine goes_ Try.func70 (by kernel_rfl) rfl #[.agg #[.int .i64 ((rd_T66 l0 x7_1).f0), .int .i64 ((rd_T66 l0 x7_1).f1)]] (by rfl) rfl rfl ul ?_; with_reducible refine (impl_Step_valid.calls ((rd_T66 l0 x7_1).f0) ((rd_T66 l0 x7_1).f1) true _ A5.out).mono ?_
           rintro e w16 ⟨rfl, hb⟩; refine ⟨_, rfl, ?_⟩; replace BK102 := bb BK102 hb; replace HB := Aside0.mk (below_step (uB1 HB GE102.out) hb); (try clear hb); (try clear hb2); (try clear hk); (try clear hi); refine hK.out _ _ (b2x BK102 ⟨(ud HB hw104_0), (ud HB hw104_1)⟩) (fun hHeld => ?_); clear hK K; refine nz ?_
           refine qz HT_ 2 ?_; refine qz HT_ 3 ?_; refine qz HT_ 4 ?_; refine qz HT_ 5 ?_; refine qz HT_ 6 ?_; refine qz HT_ 7 ?_; refine qz HT_ 8 ?_; refine qz HT_ 9 ?_; refine qz HT_ 10 ?_; refine qz HT_ 11 ?_; refine qz HT_ 13 ?_; refine qt HT_ HW_ hHeld 12 ?_; refine qt HT_ HW_ hHeld 14 ?_; refine qz HT_ 15 ?_; refine qz HT_ 16 ?_; refine qn HT_ 17 ?_; refine qn HT_ 18 ?_; refine qn HT_ 19 ?_; refine qn HT_ 20 ?_; refine qn HT_ 21 ?_; refine qn HT_ 22 ?_; refine qn HT_ 23 ?_; refine qn HT_ 24 ?_; refine qn HT_ 25 ?_; refine qz HT_ 26 ?_; refine qz HT_ 27 ?_; refine qz HT_ 28 ?_; refine done_ (done_of HT_.out (by kernel_rfl)) ?_; try go_wp2
           go_ret; exact ⟨by first | rfl | (simp [errW_none, errW_some] <;> rfl) | (simp only [← hji8]; first | rfl | (simp [errW_none, errW_some] <;> rfl)) | (simp [*, errW_none, errW_some] <;> rfl), uB1 HB GE102.out⟩
          ·
           rw [if_neg c11] at H; have c11b0 := DE c11; clear c11; by_cases c17 : ((rd_T66 l0 (ji8)).f1) ≥ ((rd_T66 l0 x7_1).f1)
           ·
            rw [if_pos c17] at H; have c17b0 := de c17; clear c17; obtain rfl := Option.some.inj H; have p101 : 0 ≤ (x7_1 : Int) := ua; have q101 : x7_1 < (l0.length : Int) := ua; obtain ⟨ad101, e101, hx101_0, hx101_1⟩ := at_T66 HR0.out x7_1 p101 q101
            cases e101
            replace hx101_0 := uc HB hx101_0; replace hx101_1 := uc HB hx101_1; replace p101 := eq_true p101; replace q101 := eq_true q101; try go_wp2_with (first | ((with_reducible refine gate_dst (N := 4) rfl ?_); refine be (cs := #[.int .i64 0, .int .i64 0]) (t := 66) ?_; intro gb102 hg w18 hbox hb; have BK102 := Aside0.mk (hbox); have GW102 := gz w hg (uB0 HB); have GE102 := gz w hg (uB0 HB); replace HB := Aside0.mk (below_step (uB0 HB) hb); clear hb hbox hg; obtain ⟨hcz19_0, hcz19_1, hfz19_0, hfz19_1⟩ := bc2 BK102))
            have n0_ : Aside0 (((w18.setCell ⟨gb102, 0, none⟩ (.int .i64 ((rd_T66 l0 x7_1).f0))).setCell ⟨gb102, 1, none⟩ (.int .i64 ((rd_T66 l0 x7_1).f1))).heap[gb102]? = some (.cells #[.int .i64 ((rd_T66 l0 x7_1).f0), .int .i64 ((rd_T66 l0 x7_1).f1)] 66 (0, 0))) := ⟨by (with_reducible repeat first | apply zbn | apply zbd | apply zba); refine pu2 (.int .i64 0) (.int .i64 0) ?_; exact ub BK102⟩
            have n1_ : Aside0 (Below w.heap.size w ((w18.setCell ⟨gb102, 0, none⟩ (.int .i64 ((rd_T66 l0 x7_1).f0))).setCell ⟨gb102, 1, none⟩ (.int .i64 ((rd_T66 l0 x7_1).f1)))) := ⟨uB1 HB GE102.out⟩
            (try clear BK102); (try clear HB); generalize ((w18.setCell ⟨gb102, 0, none⟩ (.int .i64 ((rd_T66 l0 x7_1).f0))).setCell ⟨gb102, 1, none⟩ (.int .i64 ((rd_T66 l0 x7_1).f1))) = w20 at n0_ n1_ ⊢; have BK102 := n0_; have HB := n1_; clear n0_ n1_; replace BK102 := Aside0.mk (blk_drew BK102.out); replace HB := Aside0.mk (below_drew1 HB.out); have p104 : 0 ≤ ((ji8) : Int) := ua; have q104 : (ji8) < (l0.length : Int) := ua; obtain ⟨ad104, e104, hx104_0, hx104_1⟩ := at_T66 HR0.out (ji8) p104 q104; have hw104_1 := hx104_1; have hw104_0 := hx104_0; obtain rfl : ad101 = ad104 := (by injection e104)
            replace hx104_0 := uc HB hx104_0; replace hx104_1 := uc HB hx104_1; replace p104 := eq_true p104; replace q104 := eq_true q104; have p105 : 0 ≤ ((ji8) : Int) := ua; have q105 : (ji8) < (l0.length : Int) := ua; obtain ⟨ad105, e105, hx105_0, hx105_1⟩ := at_T66 HR0.out (ji8) p105 q105; have hw105_1 := hx105_1; have hw105_0 := hx105_0; obtain rfl : ad101 = ad105 := (by injection e105)
            replace hx105_0 := uc HB hx105_0; replace hx105_1 := uc HB hx105_1; replace p105 := eq_true p105; replace q105 := eq_true q105; refine start_ (n := 29) (S := fun w' => w'.cell? ⟨gb102, 0, none⟩ = some (.int .i64 ((rd_T66 l0 x7_1).f0)) ∧ w'.cell? ⟨gb102, 1, none⟩ = some (.int .i64 ((rd_T66 l0 x7_1).f1)) ∧ w'.cell? (ad101.add (((ji8)).toNat * 2)) = some (.int .i64 ((rd_T66 l0 (ji8)).f0)) ∧ w'.cell? ⟨(ad101.add (((ji8)).toNat * 2)).block, (ad101.add (((ji8)).toNat * 2)).off + 1, none⟩ = some (.int .i64 ((rd_T66 l0 (ji8)).f1)) ∧ w'.cell? (ad101.add (((ji8)).toNat * 2)) = some (.int .i64 ((rd_T66 l0 (ji8)).f0)) ∧ w'.cell? ⟨(ad101.add (((ji8)).toNat * 2)).block, (ad101.add (((ji8)).toNat * 2)).off + 1, none⟩ = some (.int .i64 ((rd_T66 l0 (ji8)).f1))) (ds := []) (zt 29 0) (by kernel_rfl) rfl (by kernel_rfl) (b2x BK102 ⟨(ud HB hw104_0), (ud HB hw104_1), (ud HB hw105_0), (ud HB hw105_1)⟩) (fun hHeld => ?_); refine with_tabW impl_StairOk.tab4 impl_StairOk.bits4 (fun HT_ HW_ => ?_); generalize w20.drew = w21 at BK102 HB hx104_0 hx104_1 hx105_0 hx105_1 hHeld ⊢; refine qt HT_ HW_ hHeld 0 ?_; refine qo HT_ 1 (fun K hK => ?_); refine goes_ Try.func70 (by kernel_rfl) rfl #[.agg #[.int .i64 ((rd_T66 l0 x7_1).f0), .int .i64 ((rd_T66 l0 x7_1).f1)]] (by rfl) rfl rfl ul ?_; with_reducible refine (impl_Step_valid.calls ((rd_T66 l0 x7_1).f0) ((rd_T66 l0 x7_1).f1) true _ A5.out).mono ?_
            rintro e w22 ⟨rfl, hb⟩; refine ⟨_, rfl, ?_⟩; replace BK102 := bb BK102 hb; replace HB := Aside0.mk (below_step (uB1 HB GE102.out) hb); (try clear hb); (try clear hb2); (try clear hk); (try clear hi); refine hK.out _ _ (b2x BK102 ⟨(ud HB hw104_0), (ud HB hw104_1), (ud HB hw105_0), (ud HB hw105_1)⟩) (fun hHeld => ?_); clear hK K; refine nz ?_
            refine qz HT_ 2 ?_; refine qz HT_ 3 ?_; refine qz HT_ 4 ?_; refine qz HT_ 5 ?_; refine qz HT_ 6 ?_; refine qz HT_ 7 ?_; refine qz HT_ 8 ?_; refine qz HT_ 9 ?_; refine qz HT_ 10 ?_; refine qz HT_ 11 ?_; refine qz HT_ 13 ?_; refine qt HT_ HW_ hHeld 12 ?_; refine qt HT_ HW_ hHeld 14 ?_; refine qz HT_ 15 ?_; refine qz HT_ 16 ?_; refine qz HT_ 17 ?_; refine qz HT_ 18 ?_; refine qz HT_ 19 ?_; refine qz HT_ 20 ?_; refine qz HT_ 21 ?_; refine qz HT_ 23 ?_; refine qt HT_ HW_ hHeld 22 ?_; refine qt HT_ HW_ hHeld 24 ?_; refine qz HT_ 25 ?_; refine qz HT_ 26 ?_; refine qz HT_ 27 ?_; refine qz HT_ 28 ?_; refine done_ (done_of HT_.out (by kernel_rfl)) ?_; try go_wp2
            go_ret; exact ⟨by first | rfl | (simp [errW_none, errW_some] <;> rfl) | (simp only [← hji8]; first | rfl | (simp [errW_none, errW_some] <;> rfl)) | (simp [*, errW_none, errW_some] <;> rfl), uB1 HB GE102.out⟩
           ·
            rw [if_neg c17] at H; have c17b0 := DE c17; clear c17; have H' := Aside0.mk H; clear H; have p101 : 0 ≤ (x7_1 : Int) := ua; have q101 : x7_1 < (l0.length : Int) := ua; obtain ⟨ad101, e101, hx101_0, hx101_1⟩ := at_T66 HR0.out x7_1 p101 q101
            cases e101
            replace hx101_0 := uc HB hx101_0; replace hx101_1 := uc HB hx101_1; replace p101 := eq_true p101; replace q101 := eq_true q101; try go_wp2_with (first | ((with_reducible refine gate_dst (N := 4) rfl ?_); refine be (cs := #[.int .i64 0, .int .i64 0]) (t := 66) ?_; intro gb102 hg w23 hbox hb; have BK102 := Aside0.mk (hbox); have GW102 := gz w hg (uB0 HB); have GE102 := gz w hg (uB0 HB); replace HB := Aside0.mk (below_step (uB0 HB) hb); clear hb hbox hg; obtain ⟨hcz24_0, hcz24_1, hfz24_0, hfz24_1⟩ := bc2 BK102))
            have n0_ : Aside0 (((w23.setCell ⟨gb102, 0, none⟩ (.int .i64 ((rd_T66 l0 x7_1).f0))).setCell ⟨gb102, 1, none⟩ (.int .i64 ((rd_T66 l0 x7_1).f1))).heap[gb102]? = some (.cells #[.int .i64 ((rd_T66 l0 x7_1).f0), .int .i64 ((rd_T66 l0 x7_1).f1)] 66 (0, 0))) := ⟨by (with_reducible repeat first | apply zbn | apply zbd | apply zba); refine pu2 (.int .i64 0) (.int .i64 0) ?_; exact ub BK102⟩
            have n1_ : Aside0 (Below w.heap.size w ((w23.setCell ⟨gb102, 0, none⟩ (.int .i64 ((rd_T66 l0 x7_1).f0))).setCell ⟨gb102, 1, none⟩ (.int .i64 ((rd_T66 l0 x7_1).f1)))) := ⟨uB1 HB GE102.out⟩
            (try clear BK102); (try clear HB); generalize ((w23.setCell ⟨gb102, 0, none⟩ (.int .i64 ((rd_T66 l0 x7_1).f0))).setCell ⟨gb102, 1, none⟩ (.int .i64 ((rd_T66 l0 x7_1).f1))) = w25 at n0_ n1_ ⊢; have BK102 := n0_; have HB := n1_; clear n0_ n1_; replace BK102 := Aside0.mk (blk_drew BK102.out); replace HB := Aside0.mk (below_drew1 HB.out); have p104 : 0 ≤ ((ji8) : Int) := ua; have q104 : (ji8) < (l0.length : Int) := ua; obtain ⟨ad104, e104, hx104_0, hx104_1⟩ := at_T66 HR0.out (ji8) p104 q104; have hw104_1 := hx104_1; have hw104_0 := hx104_0; obtain rfl : ad101 = ad104 := (by injection e104)
            replace hx104_0 := uc HB hx104_0; replace hx104_1 := uc HB hx104_1; replace p104 := eq_true p104; replace q104 := eq_true q104; have p105 : 0 ≤ ((ji8) : Int) := ua; have q105 : (ji8) < (l0.length : Int) := ua; obtain ⟨ad105, e105, hx105_0, hx105_1⟩ := at_T66 HR0.out (ji8) p105 q105; have hw105_1 := hx105_1; have hw105_0 := hx105_0; obtain rfl : ad101 = ad105 := (by injection e105)
            replace hx105_0 := uc HB hx105_0; replace hx105_1 := uc HB hx105_1; replace p105 := eq_true p105; replace q105 := eq_true q105; refine start_ (n := 29) (S := fun w' => w'.cell? ⟨gb102, 0, none⟩ = some (.int .i64 ((rd_T66 l0 x7_1).f0)) ∧ w'.cell? ⟨gb102, 1, none⟩ = some (.int .i64 ((rd_T66 l0 x7_1).f1)) ∧ w'.cell? (ad101.add (((ji8)).toNat * 2)) = some (.int .i64 ((rd_T66 l0 (ji8)).f0)) ∧ w'.cell? ⟨(ad101.add (((ji8)).toNat * 2)).block, (ad101.add (((ji8)).toNat * 2)).off + 1, none⟩ = some (.int .i64 ((rd_T66 l0 (ji8)).f1)) ∧ w'.cell? (ad101.add (((ji8)).toNat * 2)) = some (.int .i64 ((rd_T66 l0 (ji8)).f0)) ∧ w'.cell? ⟨(ad101.add (((ji8)).toNat * 2)).block, (ad101.add (((ji8)).toNat * 2)).off + 1, none⟩ = some (.int .i64 ((rd_T66 l0 (ji8)).f1))) (ds := []) (zt 29 0) (by kernel_rfl) rfl (by kernel_rfl) (b2x BK102 ⟨(ud HB hw104_0), (ud HB hw104_1), (ud HB hw105_0), (ud HB hw105_1)⟩) (fun hHeld => ?_); refine with_tabW impl_StairOk.tab4 impl_StairOk.bits4 (fun HT_ HW_ => ?_); generalize w25.drew = w26 at BK102 HB hx104_0 hx104_1 hx105_0 hx105_1 hHeld ⊢; refine qt HT_ HW_ hHeld 0 ?_; refine qo HT_ 1 (fun K hK => ?_); refine goes_ Try.func70 (by kernel_rfl) rfl #[.agg #[.int .i64 ((rd_T66 l0 x7_1).f0), .int .i64 ((rd_T66 l0 x7_1).f1)]] (by rfl) rfl rfl ul ?_; with_reducible refine (impl_Step_valid.calls ((rd_T66 l0 x7_1).f0) ((rd_T66 l0 x7_1).f1) true _ A5.out).mono ?_
            rintro e w27 ⟨rfl, hb⟩; refine ⟨_, rfl, ?_⟩; replace BK102 := bb BK102 hb; replace HB := Aside0.mk (below_step (uB1 HB GE102.out) hb); (try clear hb); (try clear hb2); (try clear hk); (try clear hi); refine hK.out _ _ (b2x BK102 ⟨(ud HB hw104_0), (ud HB hw104_1), (ud HB hw105_0), (ud HB hw105_1)⟩) (fun hHeld => ?_); clear hK K; refine nz ?_
            refine qz HT_ 2 ?_; refine qz HT_ 3 ?_; refine qz HT_ 4 ?_; refine qz HT_ 5 ?_; refine qz HT_ 6 ?_; refine qz HT_ 7 ?_; refine qz HT_ 8 ?_; refine qz HT_ 9 ?_; refine qz HT_ 10 ?_; refine qz HT_ 11 ?_; refine qz HT_ 13 ?_; refine qt HT_ HW_ hHeld 12 ?_; refine qt HT_ HW_ hHeld 14 ?_; refine qz HT_ 15 ?_; refine qz HT_ 16 ?_; refine qz HT_ 17 ?_; refine qz HT_ 18 ?_; refine qz HT_ 19 ?_; refine qz HT_ 20 ?_; refine qz HT_ 21 ?_; refine qz HT_ 23 ?_; refine qt HT_ HW_ hHeld 22 ?_; refine qt HT_ HW_ hHeld 24 ?_; refine qz HT_ 25 ?_; refine qz HT_ 26 ?_; refine qz HT_ 27 ?_; refine qz HT_ 28 ?_; refine done_ (done_of HT_.out (by kernel_rfl)) ?_; try go_wp2
            go_roundg k1
            case measure => have := HK1.out; omega
            case rel => exact ⟨(wrap64 (x7_1 + 1)), ue, H', ⟨by have := HK1.out; omega⟩, ⟨uB1 HB GE102.out⟩⟩
         ·
          rw [if_neg c10] at H; exact absurd H (by simp)
        ·
         rw [if_neg c9] at H; exact absurd H (by simp)
       ·
        rw [if_neg c7] at H; have c7b0 := DL c7; clear c7; have H' := Aside0.mk H; clear H; have p101 : 0 ≤ (x7_1 : Int) := ua; have q101 : x7_1 < (l0.length : Int) := ua; obtain ⟨ad101, e101, hx101_0, hx101_1⟩ := at_T66 HR0.out x7_1 p101 q101
        cases e101
        replace hx101_0 := uc HB hx101_0; replace hx101_1 := uc HB hx101_1; replace p101 := eq_true p101; replace q101 := eq_true q101; try go_wp2_with (first | ((with_reducible refine gate_dst (N := 4) rfl ?_); refine be (cs := #[.int .i64 0, .int .i64 0]) (t := 66) ?_; intro gb102 hg w28 hbox hb; have BK102 := Aside0.mk (hbox); have GW102 := gz w hg (uB0 HB); have GE102 := gz w hg (uB0 HB); replace HB := Aside0.mk (below_step (uB0 HB) hb); clear hb hbox hg; obtain ⟨hcz29_0, hcz29_1, hfz29_0, hfz29_1⟩ := bc2 BK102))
        have n0_ : Aside0 (((w28.setCell ⟨gb102, 0, none⟩ (.int .i64 ((rd_T66 l0 x7_1).f0))).setCell ⟨gb102, 1, none⟩ (.int .i64 ((rd_T66 l0 x7_1).f1))).heap[gb102]? = some (.cells #[.int .i64 ((rd_T66 l0 x7_1).f0), .int .i64 ((rd_T66 l0 x7_1).f1)] 66 (0, 0))) := ⟨by (with_reducible repeat first | apply zbn | apply zbd | apply zba); refine pu2 (.int .i64 0) (.int .i64 0) ?_; exact ub BK102⟩
        have n1_ : Aside0 (Below w.heap.size w ((w28.setCell ⟨gb102, 0, none⟩ (.int .i64 ((rd_T66 l0 x7_1).f0))).setCell ⟨gb102, 1, none⟩ (.int .i64 ((rd_T66 l0 x7_1).f1)))) := ⟨uB1 HB GE102.out⟩
        (try clear BK102); (try clear HB); generalize ((w28.setCell ⟨gb102, 0, none⟩ (.int .i64 ((rd_T66 l0 x7_1).f0))).setCell ⟨gb102, 1, none⟩ (.int .i64 ((rd_T66 l0 x7_1).f1))) = w30 at n0_ n1_ ⊢; have BK102 := n0_; have HB := n1_; clear n0_ n1_; replace BK102 := Aside0.mk (blk_drew BK102.out); replace HB := Aside0.mk (below_drew1 HB.out); refine start_ (n := 29) (S := fun w' => w'.cell? ⟨gb102, 0, none⟩ = some (.int .i64 ((rd_T66 l0 x7_1).f0)) ∧ w'.cell? ⟨gb102, 1, none⟩ = some (.int .i64 ((rd_T66 l0 x7_1).f1))) (ds := []) (zt 29 0) (by kernel_rfl) rfl (by kernel_rfl) (b2_ BK102) (fun hHeld => ?_); refine with_tabW impl_StairOk.tab4 impl_StairOk.bits4 (fun HT_ HW_ => ?_); generalize w30.drew = w31 at BK102 HB hHeld ⊢; refine qt HT_ HW_ hHeld 0 ?_; refine qo HT_ 1 (fun K hK => ?_); refine goes_ Try.func70 (by kernel_rfl) rfl #[.agg #[.int .i64 ((rd_T66 l0 x7_1).f0), .int .i64 ((rd_T66 l0 x7_1).f1)]] (by rfl) rfl rfl ul ?_; with_reducible refine (impl_Step_valid.calls ((rd_T66 l0 x7_1).f0) ((rd_T66 l0 x7_1).f1) true _ A5.out).mono ?_
        rintro e w32 ⟨rfl, hb⟩; refine ⟨_, rfl, ?_⟩; replace BK102 := bb BK102 hb; replace HB := Aside0.mk (below_step (uB1 HB GE102.out) hb); (try clear hb); (try clear hb2); (try clear hk); (try clear hi); refine hK.out _ _ (b2_ BK102) (fun hHeld => ?_); clear hK K; refine nz ?_
        refine qz HT_ 2 ?_; refine qz HT_ 3 ?_; refine qz HT_ 4 ?_; refine qz HT_ 5 ?_; refine qz HT_ 6 ?_; refine qn HT_ 7 ?_; refine qn HT_ 8 ?_; refine qn HT_ 9 ?_; refine qn HT_ 10 ?_; refine qn HT_ 11 ?_; refine qn HT_ 12 ?_; refine qn HT_ 13 ?_; refine qn HT_ 14 ?_; refine qn HT_ 15 ?_; refine qn HT_ 16 ?_; refine qn HT_ 17 ?_; refine qn HT_ 18 ?_; refine qn HT_ 19 ?_; refine qn HT_ 20 ?_; refine qn HT_ 21 ?_; refine qn HT_ 22 ?_; refine qn HT_ 23 ?_; refine qn HT_ 24 ?_; refine qn HT_ 25 ?_; refine qn HT_ 26 ?_; refine qz HT_ 27 ?_; refine qz HT_ 28 ?_; refine done_ (done_of HT_.out (by kernel_rfl)) ?_; try go_wp2
        go_roundg k1
        case measure => have := HK1.out; omega
        case rel => exact ⟨(wrap64 (x7_1 + 1)), ue, H', ⟨by have := HK1.out; omega⟩, ⟨uB1 HB GE102.out⟩⟩
      ·
       replace c6 := Bool.eq_false_iff.mpr c6; subst c6; rw [if_neg (show ¬ (false = true) by decide)] at H; obtain rfl := Option.some.inj H; have p101 : 0 ≤ (x7_1 : Int) := ua; have q101 : x7_1 < (l0.length : Int) := ua; obtain ⟨ad101, e101, hx101_0, hx101_1⟩ := at_T66 HR0.out x7_1 p101 q101
       cases e101
       replace hx101_0 := uc HB hx101_0; replace hx101_1 := uc HB hx101_1; replace p101 := eq_true p101; replace q101 := eq_true q101; try go_wp2_with (first | ((with_reducible refine gate_dst (N := 4) rfl ?_); refine be (cs := #[.int .i64 0, .int .i64 0]) (t := 66) ?_; intro gb102 hg w33 hbox hb; have BK102 := Aside0.mk (hbox); have GW102 := gz w hg (uB0 HB); have GE102 := gz w hg (uB0 HB); replace HB := Aside0.mk (below_step (uB0 HB) hb); clear hb hbox hg; obtain ⟨hcz34_0, hcz34_1, hfz34_0, hfz34_1⟩ := bc2 BK102))
       have n0_ : Aside0 (((w33.setCell ⟨gb102, 0, none⟩ (.int .i64 ((rd_T66 l0 x7_1).f0))).setCell ⟨gb102, 1, none⟩ (.int .i64 ((rd_T66 l0 x7_1).f1))).heap[gb102]? = some (.cells #[.int .i64 ((rd_T66 l0 x7_1).f0), .int .i64 ((rd_T66 l0 x7_1).f1)] 66 (0, 0))) := ⟨by (with_reducible repeat first | apply zbn | apply zbd | apply zba); refine pu2 (.int .i64 0) (.int .i64 0) ?_; exact ub BK102⟩
       have n1_ : Aside0 (Below w.heap.size w ((w33.setCell ⟨gb102, 0, none⟩ (.int .i64 ((rd_T66 l0 x7_1).f0))).setCell ⟨gb102, 1, none⟩ (.int .i64 ((rd_T66 l0 x7_1).f1)))) := ⟨uB1 HB GE102.out⟩
       (try clear BK102); (try clear HB); generalize ((w33.setCell ⟨gb102, 0, none⟩ (.int .i64 ((rd_T66 l0 x7_1).f0))).setCell ⟨gb102, 1, none⟩ (.int .i64 ((rd_T66 l0 x7_1).f1))) = w35 at n0_ n1_ ⊢; have BK102 := n0_; have HB := n1_; clear n0_ n1_; replace BK102 := Aside0.mk (blk_drew BK102.out); replace HB := Aside0.mk (below_drew1 HB.out); refine start_ (n := 29) (S := fun w' => w'.cell? ⟨gb102, 0, none⟩ = some (.int .i64 ((rd_T66 l0 x7_1).f0)) ∧ w'.cell? ⟨gb102, 1, none⟩ = some (.int .i64 ((rd_T66 l0 x7_1).f1))) (ds := []) (zt 29 0) (by kernel_rfl) rfl (by kernel_rfl) (b2_ BK102) (fun hHeld => ?_); refine with_tabW impl_StairOk.tab4 impl_StairOk.bits4 (fun HT_ HW_ => ?_); generalize w35.drew = w36 at BK102 HB hHeld ⊢; refine qt HT_ HW_ hHeld 0 ?_; refine qo HT_ 1 (fun K hK => ?_); refine goes_ Try.func70 (by kernel_rfl) rfl #[.agg #[.int .i64 ((rd_T66 l0 x7_1).f0), .int .i64 ((rd_T66 l0 x7_1).f1)]] (by rfl) rfl rfl ul ?_; with_reducible refine (impl_Step_valid.calls ((rd_T66 l0 x7_1).f0) ((rd_T66 l0 x7_1).f1) false _ A5.out).mono ?_
       rintro e w37 ⟨rfl, hb⟩; refine ⟨_, rfl, ?_⟩; replace BK102 := bb BK102 hb; replace HB := Aside0.mk (below_step (uB1 HB GE102.out) hb); (try clear hb); (try clear hb2); (try clear hk); (try clear hi); refine hK.out _ _ (b2_ BK102) (fun hHeld => ?_); clear hK K; refine nz ?_
       refine qz HT_ 2 ?_; refine qz HT_ 3 ?_; refine qn HT_ 4 ?_; refine qn HT_ 5 ?_; refine qn HT_ 6 ?_; refine qn HT_ 7 ?_; refine qn HT_ 8 ?_; refine qn HT_ 9 ?_; refine qn HT_ 10 ?_; refine qn HT_ 11 ?_; refine qn HT_ 12 ?_; refine qn HT_ 13 ?_; refine qn HT_ 14 ?_; refine qn HT_ 15 ?_; refine qn HT_ 16 ?_; refine qn HT_ 17 ?_; refine qn HT_ 18 ?_; refine qn HT_ 19 ?_; refine qn HT_ 20 ?_; refine qn HT_ 21 ?_; refine qn HT_ 22 ?_; refine qn HT_ 23 ?_; refine qn HT_ 24 ?_; refine qn HT_ 25 ?_; refine qn HT_ 26 ?_; refine qn HT_ 27 ?_; refine qz HT_ 28 ?_; refine done_ (done_of HT_.out (by kernel_rfl)) ?_; try go_wp2
       go_ret; exact ⟨ux, uB1 HB GE102.out⟩
     ·
      rw [if_neg c4] at H; exact absurd H (by simp)
    ·
     rw [if_neg c3] at H; exact absurd H (by simp)
   ·
    rw [if_neg c2] at H; have c2b0 := DL c2; clear c2; obtain rfl := Option.some.inj H; go_wp2; go_ret; exact ⟨ux, uB0 HB⟩

end Go.Proofs.Ytcklifkbodmoaaa.P
namespace Go.Proofs.Ytcklifkbodmoaaa.P
open Go.RowKit Go.Proofs.YtcklifkbodmoaaaV.PrintWords Go.Proofs.YtcklifkbodmoaaaV.PrintLast
set_option linter.unusedVariables false
set_option linter.unusedSimpArgs false

/-! ### impl_StairAt: function 52 -/
def impl_StairAt.f (k : Nat) (l0 : List (S66)) (a1 : Int) : Option (Int) := (impl_StairOk.f k l0).bind fun t101 => (if t101 = true then ((impl_arrival.f k l0 a1).bind fun t102 => (some t102)) else (some (-1)))
set_option maxHeartbeats 8000000 in
set_option maxRecDepth 100000 in
theorem impl_StairAt.calls (k : Nat) (A0 : Option Addr) (c0 : Nat) (l0 : List (S66)) (a1 : Int) (r : Int) (w : World) (hr0 : Kd.C k66 w A0 l0.length l0) (hc0 : l0.length ≤ c0) (h : impl_StairAt.f k l0 a1 = some r) :
  Calls Try.prog 52 #[.slice A0 l0.length c0, .int .i64 a1] w fun e w' => e = .returned (.int .i64 r) ∧ Below w.heap.size w w' := by
 have HR0 := Aside0.mk hr0
 have HC0 := Aside0.mk hc0
 clear hr0 hc0
 have HB := Aside0.mk (Below.refl w.heap.size w)
 have H : ((impl_StairOk.f k l0).bind fun t101 => (if t101 = true then ((impl_arrival.f k l0 a1).bind fun t102 => (some t102)) else (some (-1)))) = some r := h
 clear h
 replace H := Option.bind_eq_some_iff.mp H
 obtain ⟨t101, A30, H⟩ := H
 replace H : (if t101 = true then ((impl_arrival.f k l0 a1).bind fun t102 => (some t102)) else (some (-1))) = some r := H
 have A3 := Aside0.mk A30
 clear A30
 by_cases c4 : t101 = true
 ·
  subst c4; rw [if_pos rfl] at H; replace H := Option.bind_eq_some_iff.mp H; obtain ⟨t102, A50, H⟩ := H; replace H : (some t102) = some r := H; have A5 := Aside0.mk A50; clear A50; obtain rfl := Option.some.inj H; go_enter Try.func52, Try.ntmps52; go_wp2_with (first | ((with_reducible refine gate_callee (f := 53) rfl ?_); refine goesL_ (some 6) rfl rfl Try.func53 (by kernel_rfl) rfl #[.slice A0 l0.length c0] rfl ul ?_; (with_reducible refine (impl_StairOk.calls k _ _ l0 true _ ?side1 ?side2 A3.out).mono ?_); (case side1 => repeat (first | exact HR0.out | (with_reducible refine Kd.C_alloc ?_ _) | (with_reducible refine Kd.C_drewN ?_ _) | (with_reducible refine Kd.C_drew ?_))); (case side2 => exact HC0.out); rintro e w6 ⟨rfl, hb⟩; refine ⟨_, rfl, ?_⟩; replace HB := Aside0.mk (below_step (uB0 HB) hb); (try clear hb); (try clear hb2); (try clear hk); (try clear hi)) | ((with_reducible refine gate_callee (f := 87) rfl ?_); refine goesL_ (some 10) rfl rfl Try.func87 (by kernel_rfl) rfl #[.slice A0 l0.length c0, .int .i64 a1] rfl ul ?_; (with_reducible refine (impl_arrival.calls k _ _ l0 a1 t102 _ ?side1 ?side2 A5.out).mono ?_); (case side1 => exact uC HR0 HB); (case side2 => exact HC0.out); rintro e w7 ⟨rfl, hb⟩; refine ⟨_, rfl, ?_⟩; replace HB := Aside0.mk (below_step (uB0 HB) hb); (try clear hb); (try clear hb2); (try clear hk); (try clear hi))); go_ret; exact ⟨ux, uB0 HB⟩
 ·
  replace c4 := Bool.eq_false_iff.mpr c4; subst c4; rw [if_neg (show ¬ (false = true) by decide)] at H; obtain rfl := Option.some.inj H; go_enter Try.func52, Try.ntmps52; go_wp2_with (first | ((with_reducible refine gate_callee (f := 53) rfl ?_); refine goesL_ (some 6) rfl rfl Try.func53 (by kernel_rfl) rfl #[.slice A0 l0.length c0] rfl ul ?_; (with_reducible refine (impl_StairOk.calls k _ _ l0 false _ ?side1 ?side2 A3.out).mono ?_); (case side1 => repeat (first | exact HR0.out | (with_reducible refine Kd.C_alloc ?_ _) | (with_reducible refine Kd.C_drewN ?_ _) | (with_reducible refine Kd.C_drew ?_))); (case side2 => exact HC0.out); rintro e w8 ⟨rfl, hb⟩; refine ⟨_, rfl, ?_⟩; replace HB := Aside0.mk (below_step (uB0 HB) hb); (try clear hb); (try clear hb2); (try clear hk); (try clear hi))); go_ret; exact ⟨ux, uB0 HB⟩

end Go.Proofs.Ytcklifkbodmoaaa.P
namespace Go.Proofs.Ytcklifkbodmoaaa.P
open Go.RowKit Go.Proofs.YtcklifkbodmoaaaV.PrintWords Go.Proofs.YtcklifkbodmoaaaV.PrintLast
set_option linter.unusedVariables false
set_option linter.unusedSimpArgs false

/-! ### impl_StairLast: function 54 -/
def impl_StairLast.l0 : Nat → Int → Int → List (S66) → Int → Int → Option (Int)
 | 0, _, _, _, _, _ => none
 | k + 1, x1, x5, x11, x12, x13 => if x13 < x12 then (if 0 ≤ x13 then (if x13 < (x11.length : Int) then (if ((rd_T66 x11 x13).f1) ≤ x1 then (impl_StairLast.l0 k x1 ((rd_T66 x11 x13).f0) x11 x12 (wrap64 (x13 + 1))) else (impl_StairLast.l0 k x1 x5 x11 x12 (wrap64 (x13 + 1)))) else (none)) else (none)) else (some x5)
def impl_StairLast.f (k : Nat) (l0 : List (S66)) (a1 : Int) : Option (Int) := (impl_StairOk.f k l0).bind fun t101 => (if t101 = true then (impl_StairLast.l0 k a1 (-1) l0 (l0.length : Int) 0) else (some (-1)))
set_option maxHeartbeats 8000000 in
set_option maxRecDepth 100000 in
theorem impl_StairLast.calls (k : Nat) (A0 : Option Addr) (c0 : Nat) (l0 : List (S66)) (a1 : Int) (r : Int) (w : World) (hr0 : Kd.C k66 w A0 l0.length l0) (hc0 : l0.length ≤ c0) (h : impl_StairLast.f k l0 a1 = some r) :
  Calls Try.prog 54 #[.slice A0 l0.length c0, .int .i64 a1] w fun e w' => e = .returned (.int .i64 r) ∧ Below w.heap.size w w' := by
 have hu66 := Try.underlying66
 have HR0 := Aside0.mk hr0
 have HC0 := Aside0.mk hc0
 clear hr0 hc0
 have HB := Aside0.mk (Below.refl w.heap.size w)
 have H : ((impl_StairOk.f k l0).bind fun t101 => (if t101 = true then (impl_StairLast.l0 k a1 (-1) l0 (l0.length : Int) 0) else (some (-1)))) = some r := h
 clear h
 replace H := Option.bind_eq_some_iff.mp H
 obtain ⟨t101, A30, H⟩ := H
 replace H : (if t101 = true then (impl_StairLast.l0 k a1 (-1) l0 (l0.length : Int) 0) else (some (-1))) = some r := H
 have A3 := Aside0.mk A30
 clear A30
 by_cases c4 : t101 = true
 ·
  subst c4; rw [if_pos rfl] at H; have H' := Aside0.mk H; clear H; go_enter Try.func54, Try.ntmps54; go_wp2_with (first | ((with_reducible refine gate_callee (f := 53) rfl ?_); refine goesL_ (some 9) rfl rfl Try.func53 (by kernel_rfl) rfl #[.slice A0 l0.length c0] rfl ul ?_; (with_reducible refine (impl_StairOk.calls k _ _ l0 true _ ?side1 ?side2 A3.out).mono ?_); (case side1 => repeat (first | exact HR0.out | (with_reducible refine Kd.C_alloc ?_ _) | (with_reducible refine Kd.C_drewN ?_ _) | (with_reducible refine Kd.C_drew ?_))); (case side2 => exact HC0.out); rintro e w5 ⟨rfl, hb⟩; refine ⟨_, rfl, ?_⟩; replace HB := Aside0.mk (below_step (uB0 HB) hb); (try clear hb); (try clear hb2); (try clear hk); (try clear hi))); go_loopg [5, 13] k (fun kq v5 v13 w' => ∃ (x5_1 : Int) (x13_1 : Int), v5 = .int .i64 x5_1 ∧ v13 = .int .i64 x13_1 ∧ Aside0 (impl_StairLast.l0 kq a1 x5_1 l0 (l0.length : Int) x13_1 = some r) ∧ Aside0 (kq ≤ k) ∧ Aside0 (Below w.heap.size w w'))
  case atStart => exact ⟨((-1)), (0), ue, ue, H', ⟨Nat.le_refl _⟩, ⟨uB0 HB⟩⟩
  case round =>
   clear H'; try clear p2
   try clear c4
   try clear c5
   obtain ⟨x5_1, x13_1, rfl, rfl, HA, HK1, HB⟩ := hrel
   cases gk with
   | zero => exact absurd HA.out (by simp [impl_StairLast.l0])
   | succ k1 =>
    have H := HA.out; clear HA; simp only [impl_StairLast.l0] at H; by_cases c6 : x13_1 < (l0.length : Int)
    ·
     rw [if_pos c6] at H; have c6b0 := dl c6; clear c6; by_cases c7 : 0 ≤ x13_1
     ·
      rw [if_pos c7] at H; have c7b0 := de c7; clear c7; by_cases c8 : x13_1 < (l0.length : Int)
      ·
       rw [if_pos c8] at H; have c8b0 := dl c8; clear c8; have HH_ := Aside0.mk H; clear H; have p102 : 0 ≤ (x13_1 : Int) := ua; have q102 : x13_1 < (l0.length : Int) := ua; obtain ⟨ad102, e102, hx102_0, hx102_1⟩ := at_T66 HR0.out x13_1 p102 q102
       cases e102
       replace hx102_0 := uc HB hx102_0; replace hx102_1 := uc HB hx102_1; replace p102 := eq_true p102; replace q102 := eq_true q102; go_upto_region 7 with (first | ((with_reducible refine gate_dst (N := 7) rfl ?_); refine be (cs := #[.int .i64 0, .int .i64 0]) (t := 66) ?_; intro gb103 hg w9 hbox hb; have BK103 := Aside0.mk (hbox); have GW103 := gz w hg (uB0 HB); have GE103 := gz w hg (uB0 HB); replace HB := Aside0.mk (below_step (uB0 HB) hb); clear hb hbox hg; obtain ⟨hcz10_0, hcz10_1, hfz10_0, hfz10_1⟩ := bc2 BK103))
       have H := HH_.out; clear HH_; by_cases c11 : ((rd_T66 l0 x13_1).f1) ≤ a1
       ·
        rw [if_pos c11] at H; have c11b0 := de c11; clear c11; have H' := Aside0.mk H; clear H; go_wp2; go_roundg k1
        case measure => have := HK1.out; omega
        case rel => exact ⟨((rd_T66 l0 x13_1).f0), (wrap64 (x13_1 + 1)), ue, ue, H', ⟨by have := HK1.out; omega⟩, ⟨uB1 HB GE103.out⟩⟩
       ·
        rw [if_neg c11] at H; have c11b0 := DE c11; clear c11; have H' := Aside0.mk H; clear H; go_wp2; go_roundg k1
        case measure => have := HK1.out; omega
        case rel => exact ⟨(x5_1), (wrap64 (x13_1 + 1)), ue, ue, H', ⟨by have := HK1.out; omega⟩, ⟨uB1 HB GE103.out⟩⟩
      ·
       rw [if_neg c8] at H; exact absurd H (by simp)
     ·
      rw [if_neg c7] at H; exact absurd H (by simp)
    ·
     rw [if_neg c6] at H; have c6b0 := DL c6; clear c6; obtain rfl := Option.some.inj H; go_wp2; go_ret; exact ⟨ux, uB0 HB⟩
 ·
  replace c4 := Bool.eq_false_iff.mpr c4; subst c4; rw [if_neg (show ¬ (false = true) by decide)] at H; obtain rfl := Option.some.inj H; go_enter Try.func54, Try.ntmps54; go_wp2_with (first | ((with_reducible refine gate_callee (f := 53) rfl ?_); refine goesL_ (some 9) rfl rfl Try.func53 (by kernel_rfl) rfl #[.slice A0 l0.length c0] rfl ul ?_; (with_reducible refine (impl_StairOk.calls k _ _ l0 false _ ?side1 ?side2 A3.out).mono ?_); (case side1 => repeat (first | exact HR0.out | (with_reducible refine Kd.C_alloc ?_ _) | (with_reducible refine Kd.C_drewN ?_ _) | (with_reducible refine Kd.C_drew ?_))); (case side2 => exact HC0.out); rintro e w12 ⟨rfl, hb⟩; refine ⟨_, rfl, ?_⟩; replace HB := Aside0.mk (below_step (uB0 HB) hb); (try clear hb); (try clear hb2); (try clear hk); (try clear hi))); go_ret; exact ⟨ux, uB0 HB⟩

end Go.Proofs.Ytcklifkbodmoaaa.P
