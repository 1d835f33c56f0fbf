-- written for this claim by a program (wip/gen/myprint.py over the print tool). Not trusted: Lean checks it.
import Derived.Test.YtdlaaccnaokdnaaPx0
import Derived.Test.YtdlaaccnaokdnaaHUp
import Derived.Test.YtdlaaccnaokdnaaGSt
namespace Go.Proofs.Ytdlaaccnaokdnaa.P
open Go.RowKit Go.Proofs.YtdlaaccnaokdnaaV.PrintWords Go.Proofs.YtdlaaccnaokdnaaV.PrintLast
set_option linter.unusedVariables false
set_option linter.unusedSimpArgs false

/-! ### laws_szArcS: function 49 -/
def laws_szArcS.f (l0 : List (S103)) (a1 : Int) : Option (Int) := if (wrap64 (a1 - (l0.length : Int))) < 0 then (some (-1)) else (some (wrap64 (a1 - (l0.length : Int))))
set_option maxHeartbeats 8000000 in
set_option maxRecDepth 100000 in
theorem laws_szArcS.calls (A0 : Option Addr) (c0 : Nat) (l0 : List (S103)) (a1 : Int) (r : Int) (w : World) (hr0 : Kd.C k103 w A0 l0.length l0) (hc0 : l0.length ≤ c0) (h : laws_szArcS.f l0 a1 = some r) :
  Calls Try.prog 49 #[.slice A0 l0.length c0, .int .i64 a1] w fun e w' => e = .returned (.int .i64 r) ∧ Drawn0 w w' := by
 have HR0 := Aside0.mk hr0
 have HC0 := Aside0.mk hc0
 clear hr0 hc0
 have H : (if (wrap64 (a1 - (l0.length : Int))) < 0 then (some (-1)) else (some (wrap64 (a1 - (l0.length : Int))))) = some r := h
 clear h
 by_cases c3 : (wrap64 (a1 - (l0.length : Int))) < 0
 ·
  rw [if_pos c3] at H; have c3b0 := dl c3; clear c3; obtain rfl := Option.some.inj H; go_enter Try.func49, Try.ntmps49; go_wp2; go_ret; exact ⟨by first | rfl | (simp; done) | (simp [*]; done), by repeat (exact Drawn0.refl _)⟩
 ·
  rw [if_neg c3] at H; have c3b0 := DL c3; clear c3; obtain rfl := Option.some.inj H; go_enter Try.func49, Try.ntmps49; go_wp2; go_ret; exact ⟨by first | rfl | (simp; done) | (simp [*]; done), by repeat (exact Drawn0.refl _)⟩

end Go.Proofs.Ytdlaaccnaokdnaa.P
namespace Go.Proofs.Ytdlaaccnaokdnaa.P
open Go.RowKit Go.Proofs.YtdlaaccnaokdnaaV.PrintWords Go.Proofs.YtdlaaccnaokdnaaV.PrintLast
set_option linter.unusedVariables false
set_option linter.unusedSimpArgs false

/-! ### laws_szNet: function 14 -/
def laws_szNet.f (a0_0 : Int) (l0_1 : List (S103)) (a1 : Int) : Option (Int) := (laws_szArcS.f l0_1 a1).bind fun t102 => (if t102 < 0 then (some (-1)) else (some t102))
set_option maxHeartbeats 8000000 in
set_option maxRecDepth 100000 in
theorem laws_szNet.calls (a0_0 : Int) (A0_1 : Option Addr) (c0_1 : Nat) (l0_1 : List (S103)) (a1 : Int) (r : Int) (w : World) (hr0_1 : Kd.C k103 w A0_1 l0_1.length l0_1) (hc0_1 : l0_1.length ≤ c0_1) (h : laws_szNet.f a0_0 l0_1 a1 = some r) :
  Calls Try.prog 14 #[.agg #[.int .i64 a0_0, .slice A0_1 l0_1.length c0_1], .int .i64 a1] w fun e w' => e = .returned (.int .i64 r) ∧ Below w.heap.size w w' := by
 have hu24 := Try.underlying24
 have HR0_1 := Aside0.mk hr0_1
 have HC0_1 := Aside0.mk hc0_1
 clear hr0_1 hc0_1
 have HB := Aside0.mk (Below.refl w.heap.size w)
 have H : ((laws_szArcS.f l0_1 a1).bind fun t102 => (if t102 < 0 then (some (-1)) else (some t102))) = some r := h
 clear h
 replace H := Option.bind_eq_some_iff.mp H
 obtain ⟨t102, A30, H⟩ := H
 replace H : (if t102 < 0 then (some (-1)) else (some t102)) = some r := H
 have A3 := Aside0.mk A30
 clear A30
 have HH_ := Aside0.mk H
 clear H
 go_enter Try.func14, Try.ntmps14
 go_upto_region 2 with (first | ((with_reducible refine gate_dst (N := 2) rfl ?_); refine be (cs := #[.int .i64 a0_0, .slice A0_1 l0_1.length c0_1]) (t := 24) ?_; intro gb101 hg w4 hbox hb; have BK101 := Aside0.mk (hbox); have GW101 := gz w hg (uB0 HB); have GE101 := gz w hg (uB0 HB); replace HB := Aside0.mk (below_step (uB0 HB) hb); clear hb hbox hg; obtain ⟨hcz5_0, hcz5_1, hfz5_0, hfz5_1⟩ := bc2 BK101) | ((with_reducible refine gate_callee (f := 49) rfl ?_); refine goesL_ (some 8) rfl rfl Try.func49 (by kernel_rfl) rfl #[.slice A0_1 l0_1.length c0_1, .int .i64 a1] rfl ul ?_; (with_reducible refine (laws_szArcS.calls _ _ l0_1 a1 t102 _ ?side1 ?side2 A3.out).mono ?_); (case side1 => exact uC HR0_1 HB); (case side2 => exact HC0_1.out); rintro e w' ⟨rfl, ⟨nd, rfl⟩⟩; refine ⟨_, rfl, ?_⟩))
 have H := HH_.out
 clear HH_
 by_cases c6 : t102 < 0
 ·
  rw [if_pos c6] at H; have c6b0 := dl c6; clear c6; obtain rfl := Option.some.inj H; go_wp2; go_ret; exact ⟨ux, uB1 HB GE101.out⟩
 ·
  rw [if_neg c6] at H; have c6b0 := DL c6; clear c6; obtain rfl := Option.some.inj H; go_wp2; go_ret; exact ⟨ux, uB1 HB GE101.out⟩

end Go.Proofs.Ytdlaaccnaokdnaa.P
namespace Go.Proofs.Ytdlaaccnaokdnaa.P
open Go.RowKit Go.Proofs.YtdlaaccnaokdnaaV.PrintWords Go.Proofs.YtdlaaccnaokdnaaV.PrintLast
set_option linter.unusedVariables false
set_option linter.unusedSimpArgs false

/-! ### laws_toArc: function 93 -/
def laws_toArc.f (a0_0 : Int) (a0_1 : Int) (a0_2 : Int) (a0_3 : Int) (a0_4 : Int) : Option (Int × Int × Int × Int × Int) := some (a0_0, a0_1, a0_2, a0_3, a0_4)
set_option maxHeartbeats 8000000 in
set_option maxRecDepth 100000 in
theorem laws_toArc.calls (a0_0 : Int) (a0_1 : Int) (a0_2 : Int) (a0_3 : Int) (a0_4 : Int) (r1 : Int) (r2 : Int) (r3 : Int) (r4 : Int) (r5 : Int) (w : World) (h : laws_toArc.f a0_0 a0_1 a0_2 a0_3 a0_4 = some (r1, r2, r3, r4, r5)) :
  Calls Try.prog 93 #[.agg #[.int .i64 a0_0, .int .i64 a0_1, .int .i64 a0_2, .int .i64 a0_3, .int .i64 a0_4]] w fun e w' => e = .returned (.agg #[.int .i64 r1, .int .i64 r2, .int .i64 r3, .int .i64 r4, .int .i64 r5]) ∧ Below w.heap.size w w' := by
 have hu103 := Try.underlying103
 have hu61 := Try.underlying61
 have HB := Aside0.mk (Below.refl w.heap.size w)
 have H : (some (a0_0, a0_1, a0_2, a0_3, a0_4)) = some (r1, r2, r3, r4, r5) := h
 clear h
 simp only [Option.some.injEq, Prod.mk.injEq] at H
 obtain ⟨rfl, rfl, rfl, rfl, rfl⟩ := H
 go_enter Try.func93, Try.ntmps93
 go_wp2_with (first | ((with_reducible refine gate_dst (N := 1) rfl ?_); refine be (cs := #[.int .i64 a0_0, .int .i64 a0_1, .int .i64 a0_2, .int .i64 a0_3, .int .i64 a0_4]) (t := 103) ?_; intro gb101 hg w2 hbox hb; have BK101 := Aside0.mk (hbox); have GW101 := gz w hg (uB0 HB); have GE101 := gz w hg (uB0 HB); replace HB := Aside0.mk (below_step (uB0 HB) hb); clear hb hbox hg) | ((with_reducible refine gate_dst (N := 2) rfl ?_); refine be (cs := #[.int .i64 0, .int .i64 0, .int .i64 0, .int .i64 0, .int .i64 0]) (t := 61) ?_; intro gb102 hg w3 hbox hb; have BK102 := Aside0.mk (hbox); have GW102 := gz w hg (uB1 HB GE101.out); have GE102 := gz w hg (uB1 HB GE101.out); replace HB := Aside0.mk (below_step (uB1 HB GE101.out) hb); have NB101_102 := gl hg BK101; have NB102_101 := gr hg BK101; replace BK101 := bb BK101 hb; clear hb hbox hg) | ((with_reducible refine gate_dst (N := 3) rfl ?_); refine be (cs := #[.int .i64 0, .int .i64 0, .int .i64 0, .int .i64 0, .int .i64 0]) (t := 61) ?_; intro gb103 hg w4 hbox hb; have BK103 := Aside0.mk (hbox); have GW103 := gz w hg (uB2 HB GE101.out GE102.out); have GE103 := gz w hg (uB2 HB GE101.out GE102.out); replace HB := Aside0.mk (below_step (uB2 HB GE101.out GE102.out) hb); have NB101_103 := gl hg BK101; have NB103_101 := gr hg BK101; replace BK101 := bb BK101 hb; have NB102_103 := gl hg BK102; have NB103_102 := gr hg BK102; replace BK102 := bb BK102 hb; clear hb hbox hg; have hnb5 := NB101_102.out; have hnc5 := NB102_101.out; have hnb6 := NB101_103.out; have hnc6 := NB103_101.out; obtain ⟨hcz7_0, hcz7_1, hcz7_2, hcz7_3, hcz7_4, hfz7_0, hfz7_1, hfz7_2, hfz7_3, hfz7_4⟩ := bc5 BK101; have hnb8 := NB103_102.out; have hnc8 := NB102_103.out; obtain ⟨hcz9_0, hcz9_1, hcz9_2, hcz9_3, hcz9_4, hfz9_0, hfz9_1, hfz9_2, hfz9_3, hfz9_4⟩ := bc5 BK103; obtain ⟨hcz10_0, hcz10_1, hcz10_2, hcz10_3, hcz10_4, hfz10_0, hfz10_1, hfz10_2, hfz10_3, hfz10_4⟩ := bc5 BK102))
 refine bodyPost_ret (results_cell_row rfl _ _ gb102 61 #[.int .i64 a0_0, .int .i64 a0_1, .int .i64 a0_2, .int .i64 a0_3, .int .i64 a0_4] (0, 0) _ rfl (by (with_reducible repeat first | apply zbn | apply zbd | apply zba); refine blk_put (cs := #[.int .i64 a0_0, .int .i64 a0_1, .int .i64 a0_2, .int .i64 a0_3, .int .i64 0]) ?_ 4 _ rfl; (with_reducible repeat first | apply zbn | apply zbd | apply zba); refine blk_put (cs := #[.int .i64 a0_0, .int .i64 a0_1, .int .i64 a0_2, .int .i64 0, .int .i64 0]) ?_ 3 _ rfl; (with_reducible repeat first | apply zbn | apply zbd | apply zba); refine blk_put (cs := #[.int .i64 a0_0, .int .i64 a0_1, .int .i64 0, .int .i64 0, .int .i64 0]) ?_ 2 _ rfl; (with_reducible repeat first | apply zbn | apply zbd | apply zba); refine blk_put (cs := #[.int .i64 a0_0, .int .i64 0, .int .i64 0, .int .i64 0, .int .i64 0]) ?_ 1 _ rfl; (with_reducible repeat first | apply zbn | apply zbd | apply zba); refine blk_put (cs := #[.int .i64 0, .int .i64 0, .int .i64 0, .int .i64 0, .int .i64 0]) ?_ 0 _ rfl; (with_reducible repeat first | apply zbn | apply zbd | apply zba); refine fa5 ?_ NB102_103; exact ub BK102) Try.underlying61 rfl (by kernel_rfl)) rfl ?_
 exact ⟨ux, uB3 HB GE101.out GE102.out GE103.out⟩

end Go.Proofs.Ytdlaaccnaokdnaa.P
namespace Go.Proofs.Ytdlaaccnaokdnaa.P
open Go.RowKit Go.Proofs.YtdlaaccnaokdnaaV.PrintWords Go.Proofs.YtdlaaccnaokdnaaV.PrintLast
set_option linter.unusedVariables false
set_option linter.unusedSimpArgs false

/-! ### laws_toArcS: function 54 -/
def laws_toArcS.l0 : Nat → List (S103) → List (S61) → Int → Option ((List (S61)))
 | 0, _, _, _ => none
 | k + 1, x0, x3, x4 => if x4 < (x0.length : Int) then (if 0 ≤ x4 then ((laws_toArc.f ((rd_T103 x0 x4).f0) ((rd_T103 x0 x4).f1) ((rd_T103 x0 x4).f2) ((rd_T103 x0 x4).f3) ((rd_T103 x0 x4).f4)).bind fun bt105 => (if x4 < (x3.length : Int) then (laws_toArcS.l0 k x0 (x3.set (x4 : Int).toNat (⟨bt105.1, bt105.2.1, bt105.2.2.1, bt105.2.2.2.1, bt105.2.2.2.2⟩ : S61)) (wrap64 (x4 + 1))) else (none))) else (none)) else (some x3)
def laws_toArcS.f (k : Nat) (l0 : List (S103)) : Option ((List (S61))) := if 0 ≤ (l0.length : Int) then (if ((l0.length : Int) : Int).toNat ≤ 7036874417766 then (laws_toArcS.l0 k l0 (List.replicate ((l0.length : Int) : Int).toNat z61) 0) else (none)) else (none)
set_option maxHeartbeats 8000000 in
set_option maxRecDepth 100000 in
theorem laws_toArcS.calls (k : Nat) (A0 : Option Addr) (c0 : Nat) (l0 : List (S103)) (r : List (S61)) (w : World) (hr0 : Kd.C k103 w A0 l0.length l0) (hc0 : l0.length ≤ c0) (h : laws_toArcS.f k l0 = some r) :
  Calls Try.prog 54 #[.slice A0 l0.length c0] w fun e w' => ∃ v0_ : Value, e = .returned (v0_) ∧ Kd.R k61 61 w' w.heap.size (fun _ => True) v0_ r ∧ Below w.heap.size w w' := by
 have hu103 := Try.underlying103
 have hu61 := Try.underlying61
 have HR0 := Aside0.mk hr0
 have HC0 := Aside0.mk hc0
 clear hr0 hc0
 have HB := Aside0.mk (Below.refl w.heap.size w)
 have H : (if 0 ≤ (l0.length : Int) then (if ((l0.length : Int) : Int).toNat ≤ 7036874417766 then (laws_toArcS.l0 k l0 (List.replicate ((l0.length : Int) : Int).toNat z61) 0) else (none)) else (none)) = some r := h
 clear h
 by_cases c2 : 0 ≤ (l0.length : Int)
 ·
  rw [if_pos c2] at H; have jJ := eq_true c2; have jK := de c2; clear c2; by_cases c3 : ((l0.length : Int) : Int).toNat ≤ 7036874417766
  ·
   rw [if_pos c3] at H; have jL := eq_true c3; have jM := de c3; clear c3; obtain ⟨jy, j6⟩ : ∃ y_ : List (S61), y_ = (List.replicate ((l0.length : Int) : Int).toNat z61) := ⟨_, rfl⟩
   replace H : (laws_toArcS.l0 k l0 jy 0) = some r := by first | (rw [j6]; with_reducible exact H) | (have H2_ := (Option.bind_some _ _).symm.trans H; rw [j6]; with_reducible exact H2_) | (have H2_ := (Option.bind_some _ _).symm.trans H; with_reducible exact H2_) | with_reducible exact H | (rw [j6]; exact H) | exact H
   have jz := Aside0.mk j6; clear j6; have H' := Aside0.mk H; clear H; go_enter Try.func54, Try.ntmps54; go_wp2_with (((with_reducible refine gate_dst (N := 7) rfl ?_); refine Kd.R_make k61 _ 61 rfl (N := 7) rfl 33 _ _ rfl (l0.length : Int) rfl rfl Try.underlying33 (.agg #[(.int .i64 0), (.int .i64 0), (.int .i64 0), (.int .i64 0), (.int .i64 0)]) 40 info61 rfl (by decide) (by omega) z61 (ok := fun _ => True) (okp := fun _ => True) (k61_mkM _ _ _ z61 ) (fun _ hk => hk) trivial (ua) (Nat.le_trans (Nat.mul_le_mul_right _ (ua : (l0.length : Int).toNat ≤ 7036874417766)) (by omega)) (Below.refl _ _) (Nat.le_refl _) ?_; intro v102 w4 ho5 hb hg_ hnew_; clear hg_ hnew_; (rw [← jz.out] at ho5); have jA := Aside0.mk (Kd.R_lower ho5 (below_size (uB0 HB))); replace HB := Aside0.mk (below_step (uB0 HB) hb); clear hb ho5)); go_loopg [4] k (fun kq v4 w' => ∃ (j1 : List (S61)) (j0 : Int), v4 = .int .i64 j0 ∧ Aside0 (laws_toArcS.l0 kq l0 j1 j0 = some r) ∧ Aside0 (kq ≤ k) ∧ Aside0 (Kd.R k61 61 w' w.heap.size (fun _ => True) v102 j1) ∧ Aside0 (Below w.heap.size w w'))
   case atStart => exact ⟨(jy), (0), ue, H', ⟨Nat.le_refl _⟩, ⟨ur jA⟩, ⟨uB0 HB⟩⟩
   case round =>
    clear H'
    clear jJ jK jL jM
    obtain ⟨j1, j0, rfl, HA, HK1, j4, HB⟩ := hrel
    cases gk with
    | zero => exact absurd HA.out (by simp [laws_toArcS.l0])
    | succ k1 =>
     have H := HA.out; clear HA; simp only [laws_toArcS.l0] at H; by_cases c6 : j0 < (l0.length : Int)
     ·
      rw [if_pos c6] at H; have jN := dl c6; clear c6; by_cases c7 : 0 ≤ j0
      ·
       rw [if_pos c7] at H; have j02 := de c7; clear c7; replace H := Option.bind_eq_some_iff.mp H; obtain ⟨⟨j8, j9, ja, jb, jc⟩, A80, H⟩ := H; replace H : (if j0 < (j1.length : Int) then (laws_toArcS.l0 k1 l0 (j1.set (j0 : Int).toNat (⟨j8, j9, ja, jb, jc⟩ : S61)) (wrap64 (j0 + 1))) else (none)) = some r := H; have A8 := Aside0.mk A80; clear A80; by_cases c9 : j0 < (j1.length : Int)
       ·
        rw [if_pos c9] at H; have j03 := dl c9; clear c9; obtain ⟨jk, j7⟩ : ∃ y_ : List (S61), y_ = (j1.set (j0 : Int).toNat (⟨j8, j9, ja, jb, jc⟩ : S61)) := ⟨_, rfl⟩
        replace H : (laws_toArcS.l0 k1 l0 jk (wrap64 (j0 + 1))) = some r := by first | (rw [j7]; with_reducible exact H) | (have H2_ := (Option.bind_some _ _).symm.trans H; rw [j7]; with_reducible exact H2_) | (have H2_ := (Option.bind_some _ _).symm.trans H; with_reducible exact H2_) | with_reducible exact H | (rw [j7]; exact H) | exact H
        have jB := Aside0.mk j7; clear j7; have H' := Aside0.mk H; clear H; have jl : 0 ≤ (j0 : Int) := ua; have jm : j0 < (l0.length : Int) := ua; obtain ⟨j01, jO, jd, je, jf, jg, jh⟩ := at_T103 HR0.out j0 jl jm
        cases jO
        replace jd := uc HB jd; replace je := uc HB je; replace jf := uc HB jf; replace jg := uc HB jg; replace jh := uc HB jh; replace jl := eq_true jl; replace jm := eq_true jm; go_wp2_with (first | ((with_reducible refine gate_callee (f := 93) rfl ?_); refine goesL_ (some 20) rfl rfl Try.func93 (by kernel_rfl) rfl #[.agg #[.int .i64 ((rd_T103 l0 j0).f0), .int .i64 ((rd_T103 l0 j0).f1), .int .i64 ((rd_T103 l0 j0).f2), .int .i64 ((rd_T103 l0 j0).f3), .int .i64 ((rd_T103 l0 j0).f4)]] rfl ul ?_; (with_reducible refine (laws_toArc.calls ((rd_T103 l0 j0).f0) ((rd_T103 l0 j0).f1) ((rd_T103 l0 j0).f2) ((rd_T103 l0 j0).f3) ((rd_T103 l0 j0).f4) j8 j9 ja jb jc _ A8.out).mono ?_); rintro e w11 ⟨rfl, hb⟩; refine ⟨_, rfl, ?_⟩; replace j4 := Aside0.mk (Kd.R_below (ur j4) hb); replace HB := Aside0.mk (below_step (uB0 HB) hb); (try clear hb); have p10 : 0 ≤ (j0 : Int) := ua; have q10 : (j0 : Int) < ((j1.length : Int) : Int) := ua; obtain ⟨j2, jC, jP, jD, jQ, j04, jE⟩ := Kd.R_form j4.out (by omega); (cases jP); have ji := Aside0.mk jD; have j05 := Aside0.mk jE; clear jD jQ jE; obtain ⟨j06, jF, jG, j5, hfr10⟩ := Kd.R_elem j4.out z61 (j0 : Int) p10 q10; obtain rfl := k61_openM jG; have jR : w11.cell? ⟨j2, (j0 : Int).toNat * 5, none⟩ = some (.int .i64 ((rd_T61 j1 j0).f0)) := j5 0 _ rfl; have jS : w11.cell? ⟨j2, (j0 : Int).toNat * 5 + 1, none⟩ = some (.int .i64 ((rd_T61 j1 j0).f1)) := j5 1 _ rfl; have jT : w11.cell? ⟨j2, (j0 : Int).toNat * 5 + 2, none⟩ = some (.int .i64 ((rd_T61 j1 j0).f2)) := j5 2 _ rfl; have jU : w11.cell? ⟨j2, (j0 : Int).toNat * 5 + 3, none⟩ = some (.int .i64 ((rd_T61 j1 j0).f3)) := j5 3 _ rfl; have jV : w11.cell? ⟨j2, (j0 : Int).toNat * 5 + 4, none⟩ = some (.int .i64 ((rd_T61 j1 j0).f4)) := j5 4 _ rfl; have jW : w11.frozen? ⟨j2, (j0 : Int).toNat * 5, none⟩ = false := hfr10 0; have jX : w11.frozen? ⟨j2, (j0 : Int).toNat * 5 + 1, none⟩ = false := hfr10 1; have jY : w11.frozen? ⟨j2, (j0 : Int).toNat * 5 + 2, none⟩ = false := hfr10 2; have jZ : w11.frozen? ⟨j2, (j0 : Int).toNat * 5 + 3, none⟩ = false := hfr10 3; have j00 : w11.frozen? ⟨j2, (j0 : Int).toNat * 5 + 4, none⟩ = false := hfr10 4; clear jF j5 hfr10 jG; replace p10 := eq_true p10; replace q10 := eq_true q10; have jH := Aside0.mk (show Kd.R k61 61 w11 w.heap.size (fun _ => True) (.slice (some ⟨j2, 0, none⟩) j1.length jC) j1 from (ur j4)); obtain ⟨j07, jj, jI, j3, hfr12⟩ := Kd.R_elem jH.out z61 (j0 : Int) (ua) (by have h_ : (j0 : Int) < ((j1.length : Int) : Int) := ua; first | exact h_ | (have e_ := (Kd.R_reads' j4.out).1; omega) | simpa using h_); obtain rfl := k61_openM jI; have jn := Kd.R_seg jH.out (j0 : Int) (ua) (by have h_ : (j0 : Int) < ((j1.length : Int) : Int) := ua; first | exact h_ | (have e_ := (Kd.R_reads' j4.out).1; omega) | simpa using h_) (seg := [.int .i64 j8, .int .i64 j9, .int .i64 ja, .int .i64 jb, .int .i64 jc]) (j := 0) jj j3 (show 5 ≤ 5 from by decide) (x' := (⟨j8, j9, ja, jb, jc⟩ : S61)) (k61_mkM _ _ _ (⟨j8, j9, ja, jb, jc⟩ : S61) ) (fun _ hk => hk); have jo := j3 0 _ rfl; (try simp only [show (k61).sz = 5 from rfl, Nat.mul_one, Nat.add_zero] at jo); have jp := hfr12 0; (try simp only [show (k61).sz = 5 from rfl, Nat.mul_one, Nat.add_zero] at jp); have jq := j3 1 _ rfl; (try simp only [show (k61).sz = 5 from rfl, Nat.mul_one, Nat.add_zero] at jq); have jr := hfr12 1; (try simp only [show (k61).sz = 5 from rfl, Nat.mul_one, Nat.add_zero] at jr); have js := j3 2 _ rfl; (try simp only [show (k61).sz = 5 from rfl, Nat.mul_one, Nat.add_zero] at js); have jt := hfr12 2; (try simp only [show (k61).sz = 5 from rfl, Nat.mul_one, Nat.add_zero] at jt); have ju := j3 3 _ rfl; (try simp only [show (k61).sz = 5 from rfl, Nat.mul_one, Nat.add_zero] at ju); have jv := hfr12 3; (try simp only [show (k61).sz = 5 from rfl, Nat.mul_one, Nat.add_zero] at jv); have jw := j3 4 _ rfl; (try simp only [show (k61).sz = 5 from rfl, Nat.mul_one, Nat.add_zero] at jw); have jx := hfr12 4; (try simp only [show (k61).sz = 5 from rfl, Nat.mul_one, Nat.add_zero] at jx); clear jj j3 hfr12 jI) | ((with_reducible refine gate_store (t := 61) (p := 21) rfl ?_); refine store_event (t := 61) (p := 21) (v := ?vo_w13) (w1 := (((((w11.setCell ⟨j2, (j0 : Int).toNat * 5, none⟩ (.int .i64 j8)).setCell ⟨j2, (j0 : Int).toNat * 5 + 1, none⟩ (.int .i64 j9)).setCell ⟨j2, (j0 : Int).toNat * 5 + 2, none⟩ (.int .i64 ja)).setCell ⟨j2, (j0 : Int).toNat * 5 + 3, none⟩ (.int .i64 jb)).setCell ⟨j2, (j0 : Int).toNat * 5 + 4, none⟩ (.int .i64 jc))) ?hg ?ho ?hn ?hr ?_; (case ho => rfl); (case hg => rfl); (case hn => rfl); (case hr => first | (go_simp; done) | (go_simp; rfl)); intro w13 hw; have hg : w11.grownBy w13 (some j2) := (by rw [hw]; exact jn.2); have hp_ : Kd.R k61 61 w13 w.heap.size (fun _ => True) (.slice (some ⟨j2, 0, none⟩) j1.length jC) jk := (by rw [hw, jB.out]; exact jn.1); clear jn; replace j4 := Aside0.mk (hp_); replace HB := Aside0.mk ((by rw [hw]; exact below_set (below_set (below_set (below_set (below_set (HB.out) ji.out) ji.out) ji.out) ji.out) ji.out : Below w.heap.size w w13)); clear hg hw hp_)); go_roundg k1
        case measure => have := HK1.out; omega
        case rel => exact ⟨(jk), (wrap64 (j0 + 1)), ue, H', ⟨by have := HK1.out; omega⟩, ⟨ur j4⟩, ⟨uB0 HB⟩⟩
       ·
        rw [if_neg c9] at H; exact absurd H (by simp)
      ·
       rw [if_neg c7] at H; exact absurd H (by simp)
     ·
      rw [if_neg c6] at H; have jN := DL c6; clear c6; obtain rfl := Option.some.inj H; go_wp2; go_ret; exact ⟨_, by first | rfl | (simp [errW_none, errW_some] <;> rfl) | (simp [*, errW_none, errW_some] <;> rfl), by (with_reducible repeat (first | apply Kd.R_alloc | apply Kd.R_drewN | apply Kd.R_drew)); exact j4.out, uB0 HB⟩
  ·
   rw [if_neg c3] at H; exact absurd H (by simp)
 ·
  rw [if_neg c2] at H; exact absurd H (by simp)

end Go.Proofs.Ytdlaaccnaokdnaa.P
namespace Go.Proofs.Ytdlaaccnaokdnaa.P
open Go.RowKit Go.Proofs.YtdlaaccnaokdnaaV.PrintWords Go.Proofs.YtdlaaccnaokdnaaV.PrintLast
set_option linter.unusedVariables false
set_option linter.unusedSimpArgs false

/-! ### laws_toNet: function 17 -/
def laws_toNet.f (k : Nat) (a0_0 : Int) (l0_1 : List (S103)) : Option (Int × (List (S61))) := (laws_toArcS.f k l0_1).bind fun t104 => (some (a0_0, t104))
set_option maxHeartbeats 8000000 in
set_option maxRecDepth 100000 in
theorem laws_toNet.calls (k : Nat) (a0_0 : Int) (A0_1 : Option Addr) (c0_1 : Nat) (l0_1 : List (S103)) (r1 : Int) (r2 : List (S61)) (w : World) (hr0_1 : Kd.C k103 w A0_1 l0_1.length l0_1) (hc0_1 : l0_1.length ≤ c0_1) (h : laws_toNet.f k a0_0 l0_1 = some (r1, r2)) :
  Calls Try.prog 17 #[.agg #[.int .i64 a0_0, .slice A0_1 l0_1.length c0_1]] w fun e w' => ∃ v1_ : Value, e = .returned (.agg #[.int .i64 r1, v1_]) ∧ Kd.R k61 61 w' w.heap.size (fun _ => True) v1_ r2 ∧ Below w.heap.size w w' := by
 have hu24 := Try.underlying24
 have hu35 := Try.underlying35
 have ji := Aside0.mk hr0_1
 have jj := Aside0.mk hc0_1
 clear hr0_1 hc0_1
 have HB := Aside0.mk (Below.refl w.heap.size w)
 have H : ((laws_toArcS.f k l0_1).bind fun j7 => (some (a0_0, j7))) = some (r1, r2) := h
 clear h
 replace H := Option.bind_eq_some_iff.mp H
 obtain ⟨j7, A20, H⟩ := H
 replace H : (some (a0_0, j7)) = some (r1, r2) := H
 have A2 := Aside0.mk A20
 clear A20
 simp only [Option.some.injEq, Prod.mk.injEq] at H
 obtain ⟨rfl, rfl⟩ := H
 go_enter Try.func17, Try.ntmps17
 go_wp2_with (first | ((with_reducible refine gate_dst (N := 1) rfl ?_); refine be (cs := #[.int .i64 a0_0, .slice A0_1 l0_1.length c0_1]) (t := 24) ?_; intro jk hg w3 hbox hb; have j0 := Aside0.mk (hbox); have jC := gz w hg (uB0 HB); have j1 := gz w hg (uB0 HB); replace HB := Aside0.mk (below_step (uB0 HB) hb); clear hb hbox hg) | ((with_reducible refine gate_dst (N := 2) rfl ?_); refine be (cs := #[.int .i64 0, .slice none 0 0]) (t := 35) ?_; intro j8 hg w4 hbox hb; have j2 := Aside0.mk (hbox); have jD := gz w hg (uB1 HB j1.out); have j4 := gz w hg (uB1 HB j1.out); replace HB := Aside0.mk (below_step (uB1 HB j1.out) hb); have ja := gl hg j0; have jb := gr hg j0; replace j0 := bb j0 hb; clear hb hbox hg) | ((with_reducible refine gate_dst (N := 3) rfl ?_); refine be (cs := #[.int .i64 0, .slice none 0 0]) (t := 35) ?_; intro je hg w5 hbox hb; have j6 := Aside0.mk (hbox); have jE := gz w hg (uB2 HB j1.out j4.out); have j9 := gz w hg (uB2 HB j1.out j4.out); replace HB := Aside0.mk (below_step (uB2 HB j1.out j4.out) hb); have j5 := gl hg j0; have jc := gr hg j0; replace j0 := bb j0 hb; have j3 := gl hg j2; have jd := gr hg j2; replace j2 := bb j2 hb; clear hb hbox hg; have jF := ja.out; have jG := jb.out; have jH := j5.out; have jI := jc.out; obtain ⟨jx, jy, jz, jA⟩ := bc2 j0; have jJ := jd.out; have jK := j3.out; obtain ⟨jl, jm, jn, jo⟩ := bc2 j6) | ((with_reducible refine gate_callee (f := 54) rfl ?_); refine goesL_ (some 9) rfl rfl Try.func54 (by kernel_rfl) rfl #[.slice A0_1 l0_1.length c0_1] rfl ul ?_; (with_reducible refine (laws_toArcS.calls k _ _ l0_1 j7 _ ?side1 ?side2 A2.out).mono ?_); (case side1 => exact Kd.C_below ji.out (uB3 HB j1.out j4.out j9.out)); (case side2 => exact jj.out); rintro e w11 ⟨v105, rfl, ho0, hb⟩; refine ⟨_, rfl, ?_⟩; have jf := Aside0.mk (Kd.R_lower ho0 (below_size (uB3 HB j1.out j4.out j9.out))); replace j0 := Aside0.mk (blk_below (g := jk) (o := .cells #[.int .i64 a0_0, .slice A0_1 l0_1.length c0_1] 24 (0, 0)) (by (with_reducible repeat first | apply zbn | apply zbd | apply zba); refine blk_far ?_ j5.out _; exact ub j0) hb); replace j2 := Aside0.mk (blk_below (g := j8) (o := .cells #[.int .i64 0, .slice none 0 0] 35 (0, 0)) (by (with_reducible repeat first | apply zbn | apply zbd | apply zba); refine blk_far ?_ j3.out _; exact ub j2) hb); replace j6 := Aside0.mk (blk_below (g := je) (o := .cells #[.int .i64 a0_0, .slice none 0 0] 35 (0, 0)) (by (with_reducible repeat first | apply zbn | apply zbd | apply zba); refine blk_put (cs := #[.int .i64 0, .slice none 0 0]) ?_ 0 _ rfl; exact ub j6) hb); replace HB := Aside0.mk (below_step (uB3 HB j1.out j4.out j9.out) hb); (try clear hb); (try clear ho0); obtain ⟨jg, jh, jB⟩ := Kd.R_slice jf.out; subst jB; obtain ⟨jp, jq, jr, js⟩ := bc2 j6; obtain ⟨jt, ju, jv, jw⟩ := bc2 j2))
 refine bodyPost_ret (results_cell_row rfl _ _ j8 35 #[.int .i64 a0_0, .slice jg j7.length jh] (0, 0) _ rfl (by (with_reducible repeat first | apply zbn | apply zbd | apply zba); refine blk_put (cs := #[.int .i64 a0_0, .slice none 0 0]) ?_ 1 _ rfl; (with_reducible repeat first | apply zbn | apply zbd | apply zba); refine blk_put (cs := #[.int .i64 0, .slice none 0 0]) ?_ 0 _ rfl; (with_reducible repeat first | apply zbn | apply zbd | apply zba); refine blk_far ?_ j3.out _; exact ub j2) Try.underlying35 rfl (by kernel_rfl)) rfl ?_
 exact ⟨_, by first | rfl | (simp [errW_none, errW_some] <;> rfl) | (simp [*, errW_none, errW_some] <;> rfl), by (with_reducible repeat (first | apply Kd.R_alloc | apply Kd.R_drewN | apply Kd.R_drew)); exact Kd.R_mono (Kd.R_far (p := ⟨j8, 1, none⟩) (Kd.R_far (p := ⟨j8, 0, none⟩) (Kd.R_far (p := ⟨je, 1, none⟩) (Kd.R_types (Kd.R_types jf.out j6.out (by decide)) j2.out (by decide)) (fun _ hk => hk.1.2) (.slice jg j7.length jh)) (fun _ hk => hk.2) (.int .i64 a0_0)) (fun _ hk => hk.2) (.slice jg j7.length jh)) (fun _ hk => trivial), uB3 HB j1.out j4.out j9.out⟩

end Go.Proofs.Ytdlaaccnaokdnaa.P
namespace Go.Proofs.Ytdlaaccnaokdnaa.P
open Go.RowKit Go.Proofs.YtdlaaccnaokdnaaV.PrintWords Go.Proofs.YtdlaaccnaokdnaaV.PrintLast
set_option linter.unusedVariables false
set_option linter.unusedSimpArgs false

/-! ### laws_toIntS: function 30 -/
def laws_toIntS.l0 : Nat → List Int → List Int → Int → Option (List Int)
 | 0, _, _, _ => none
 | k + 1, x0, x3, x4 => if x4 < (x0.length : Int) then (if 0 ≤ x4 then (if x4 < (x3.length : Int) then (laws_toIntS.l0 k x0 (x3.set (x4 : Int).toNat (rd x0 x4)) (wrap64 (x4 + 1))) else (none)) else (none)) else (some x3)
def laws_toIntS.f (k : Nat) (l0 : List Int) : Option (List Int) := if 0 ≤ (l0.length : Int) then (if ((l0.length : Int) : Int).toNat ≤ 35184372088832 then (laws_toIntS.l0 k l0 (List.replicate ((l0.length : Int) : Int).toNat 0) 0) else (none)) else (none)
set_option maxHeartbeats 8000000 in
set_option maxRecDepth 100000 in
theorem laws_toIntS.calls (k : Nat) (A0 : Option Addr) (c0 : Nat) (l0 : List Int) (r : List Int) (w : World) (hr0 : Kd.C (Kd.int .i64) w A0 l0.length l0) (hc0 : l0.length ≤ c0) (h : laws_toIntS.f k l0 = some r) :
  Calls Try.prog 30 #[.slice A0 l0.length c0] w fun e w' => ∃ v0_ : Value, e = .returned (v0_) ∧ Kd.R (Kd.int .i64) 3 w' w.heap.size (fun _ => True) v0_ r ∧ Below w.heap.size w w' := by
 have HR0 := Aside0.mk hr0
 have HC0 := Aside0.mk hc0
 clear hr0 hc0
 have HB := Aside0.mk (Below.refl w.heap.size w)
 have H : (if 0 ≤ (l0.length : Int) then (if ((l0.length : Int) : Int).toNat ≤ 35184372088832 then (laws_toIntS.l0 k l0 (List.replicate ((l0.length : Int) : Int).toNat 0) 0) else (none)) else (none)) = some r := h
 clear h
 by_cases c2 : 0 ≤ (l0.length : Int)
 ·
  rw [if_pos c2] at H; have je := eq_true c2; have jf := de c2; clear c2; by_cases c3 : ((l0.length : Int) : Int).toNat ≤ 35184372088832
  ·
   rw [if_pos c3] at H; have jg := eq_true c3; have jh := de c3; clear c3; obtain ⟨ja, j1⟩ : ∃ y_ : List Int, y_ = (List.replicate ((l0.length : Int) : Int).toNat 0) := ⟨_, rfl⟩
   replace H : (laws_toIntS.l0 k l0 ja 0) = some r := by first | (rw [j1]; with_reducible exact H) | (have H2_ := (Option.bind_some _ _).symm.trans H; rw [j1]; with_reducible exact H2_) | (have H2_ := (Option.bind_some _ _).symm.trans H; with_reducible exact H2_) | with_reducible exact H | (rw [j1]; exact H) | exact H
   have jb := Aside0.mk j1; clear j1; have H' := Aside0.mk H; clear H; go_enter Try.func30, Try.ntmps30; go_wp2_with (((with_reducible refine gate_dst (N := 7) rfl ?_); refine Kd.R_make (Kd.int .i64) _ 3 rfl (N := 7) rfl 25 _ _ rfl (l0.length : Int) rfl rfl Try.underlying25 (.int .i64 0) 8 info3 rfl (by decide) (by omega) 0 (ok := fun _ => True) (okp := fun _ => True) rfl (fun _ hk => hk) trivial (ua) (Nat.le_trans (Nat.mul_le_mul_right _ (ua : (l0.length : Int).toNat ≤ 35184372088832)) (by omega)) (Below.refl _ _) (Nat.le_refl _) ?_; intro v102 w4 ho5 hb hg_ hnew_; clear hg_ hnew_; (rw [← jb.out] at ho5); have jc := Aside0.mk (Kd.R_lower ho5 (below_size (uB0 HB))); replace HB := Aside0.mk (below_step (uB0 HB) hb); clear hb ho5)); go_loopg [4] k (fun kq v4 w' => ∃ (j3 : List Int) (j0 : Int), v4 = .int .i64 j0 ∧ Aside0 (laws_toIntS.l0 kq l0 j3 j0 = some r) ∧ Aside0 (kq ≤ k) ∧ Aside0 (Kd.R (Kd.int .i64) 3 w' w.heap.size (fun _ => True) v102 j3) ∧ Aside0 (Below w.heap.size w w'))
   case atStart => exact ⟨(ja), (0), ue, H', ⟨Nat.le_refl _⟩, ⟨ur jc⟩, ⟨uB0 HB⟩⟩
   case round =>
    clear H'
    clear je jf jg jh
    obtain ⟨j3, j0, rfl, HA, HK1, j5, HB⟩ := hrel
    cases gk with
    | zero => exact absurd HA.out (by simp [laws_toIntS.l0])
    | succ k1 =>
     have H := HA.out; clear HA; simp only [laws_toIntS.l0] at H; by_cases c6 : j0 < (l0.length : Int)
     ·
      rw [if_pos c6] at H; have ji := dl c6; clear c6; by_cases c7 : 0 ≤ j0
      ·
       rw [if_pos c7] at H; have jn := de c7; clear c7; by_cases c8 : j0 < (j3.length : Int)
       ·
        rw [if_pos c8] at H; have jo := dl c8; clear c8; obtain ⟨j6, j2⟩ : ∃ y_ : List Int, y_ = (j3.set (j0 : Int).toNat (rd l0 j0)) := ⟨_, rfl⟩
        replace H : (laws_toIntS.l0 k1 l0 j6 (wrap64 (j0 + 1))) = some r := by first | (rw [j2]; with_reducible exact H) | (have H2_ := (Option.bind_some _ _).symm.trans H; rw [j2]; with_reducible exact H2_) | (have H2_ := (Option.bind_some _ _).symm.trans H; with_reducible exact H2_) | with_reducible exact H | (rw [j2]; exact H) | exact H
        have jd := Aside0.mk j2; clear j2; have H' := Aside0.mk H; clear H; have j7 : 0 ≤ (j0 : Int) := ua; have j8 : j0 < (l0.length : Int) := ua; obtain ⟨jk, jj, j4⟩ := Kd.at_int HR0.out j0 j7 j8
        cases jj
        replace j4 := uc HB j4; replace j7 := eq_true j7; replace j8 := eq_true j8; have p9 : 0 ≤ (j0 : Int) := ua; have q9 : (j0 : Int) < ((j3.length : Int) : Int) := ua; obtain ⟨go9, co9, eo9, gb9, gl9, cl9, HG9⟩ := Kd.R_form j5.out (by omega); (cases eo9); have GB9 := Aside0.mk gb9; have GG9 := Aside0.mk HG9; clear gb9 gl9 HG9; obtain ⟨jl, jm⟩ := Kd.R_celln 0 j5.out (j0 : Int) p9 q9; replace p9 := eq_true p9; replace q9 := eq_true q9; have j9 := Kd.R_putg j5.out (j0 : Int) (rd l0 j0); go_wp2_with (((with_reducible refine gate_store (t := 3) (p := 20) rfl ?_); refine store_event (t := 3) (p := 20) (v := ?vo_w11) (w1 := (wr.setCell ⟨go9, (j0 : Int).toNat, none⟩ (.int .i64 (rd l0 j0)))) ?hg ?ho ?hn ?hr ?_; (case ho => rfl); (case hg => rfl); (case hn => rfl); (case hr => first | (go_simp; done) | (go_simp; rfl)); intro w11 hw; have hg : wr.grownBy w11 (some go9) := (by rw [hw]; exact j9.2); have hp_ : Kd.R (Kd.int .i64) 3 w11 w.heap.size (fun _ => True) (.slice (some ⟨go9, 0, none⟩) j3.length co9) j6 := (by rw [hw, jd.out]; exact j9.1); clear j9; replace j5 := Aside0.mk (hp_); replace HB := Aside0.mk ((by rw [hw]; exact below_set (HB.out) GB9.out : Below w.heap.size w w11)); clear hg hw hp_)); go_roundg k1
        case measure => have := HK1.out; omega
        case rel => exact ⟨(j6), (wrap64 (j0 + 1)), ue, H', ⟨by have := HK1.out; omega⟩, ⟨ur j5⟩, ⟨uB0 HB⟩⟩
       ·
        rw [if_neg c8] at H; exact absurd H (by simp)
      ·
       rw [if_neg c7] at H; exact absurd H (by simp)
     ·
      rw [if_neg c6] at H; have ji := DL c6; clear c6; obtain rfl := Option.some.inj H; go_wp2; go_ret; exact ⟨_, by first | rfl | (simp [errW_none, errW_some] <;> rfl) | (simp [*, errW_none, errW_some] <;> rfl), by (with_reducible repeat (first | apply Kd.R_alloc | apply Kd.R_drewN | apply Kd.R_drew)); exact j5.out, uB0 HB⟩
  ·
   rw [if_neg c3] at H; exact absurd H (by simp)
 ·
  rw [if_neg c2] at H; exact absurd H (by simp)

end Go.Proofs.Ytdlaaccnaokdnaa.P
namespace Go.Proofs.Ytdlaaccnaokdnaa.P
open Go.RowKit Go.Proofs.YtdlaaccnaokdnaaV.PrintWords Go.Proofs.YtdlaaccnaokdnaaV.PrintLast
set_option linter.unusedVariables false
set_option linter.unusedSimpArgs false

/-! ### laws_eqIntS: function 24 -/
def laws_eqIntS.l0 : Nat → List Int → List Int → Int → Option (Bool)
 | 0, _, _, _ => none
 | k + 1, x0, x1, x5 => if x5 < (x0.length : Int) then (if 0 ≤ x5 then (if x5 < (x1.length : Int) then (if (rd x0 x5) = (rd x1 x5) then (laws_eqIntS.l0 k x0 x1 (wrap64 (x5 + 1))) else (some false)) else (none)) else (none)) else (some true)
def laws_eqIntS.f (k : Nat) (l0 : List Int) (l1 : List Int) : Option (Bool) := if (l0.length : Int) = (l1.length : Int) then (laws_eqIntS.l0 k l0 l1 0) else (some false)
set_option maxHeartbeats 8000000 in
set_option maxRecDepth 100000 in
theorem laws_eqIntS.calls (k : Nat) (A0 : Option Addr) (c0 : Nat) (l0 : List Int) (A1 : Option Addr) (c1 : Nat) (l1 : List Int) (r : Bool) (w : World) (hr0 : Kd.C (Kd.int .i64) w A0 l0.length l0) (hc0 : l0.length ≤ c0) (hr1 : Kd.C (Kd.int .i64) w A1 l1.length l1) (hc1 : l1.length ≤ c1) (h : laws_eqIntS.f k l0 l1 = some r) :
  Calls Try.prog 24 #[.slice A0 l0.length c0, .slice A1 l1.length c1] w fun e w' => e = .returned (.bool r) ∧ Drawn0 w w' := by
 have HR0 := Aside0.mk hr0
 have HC0 := Aside0.mk hc0
 clear hr0 hc0
 have HR1 := Aside0.mk hr1
 have HC1 := Aside0.mk hc1
 clear hr1 hc1
 have H : (if (l0.length : Int) = (l1.length : Int) then (laws_eqIntS.l0 k l0 l1 0) else (some false)) = some r := h
 clear h
 by_cases c3 : (l0.length : Int) = (l1.length : Int)
 ·
  rw [if_pos c3] at H; obtain ⟨j9, ja⟩ := dq c3; have jb : (l0.length == l1.length) = true := by first | simpa using c3 | (simp at c3 ⊢; omega)
  clear c3; have H' := Aside0.mk H; clear H; go_enter Try.func24, Try.ntmps24; go_wp2
  go_loopg [5] k (fun kq v5 w' => ∃ (j0 : Int), v5 = .int .i64 j0 ∧ Aside0 (laws_eqIntS.l0 kq l0 l1 j0 = some r) ∧ Aside0 (kq ≤ k) ∧ Drawn0 w w')
  case atStart => exact ⟨(0), ue, H', ⟨Nat.le_refl _⟩, by repeat (exact Drawn0.refl _)⟩
  case round =>
   clear H'
   clear j9 ja jb
   obtain ⟨j0, rfl, HA, HK1, ⟨m1, rfl⟩⟩ := hrel
   cases gk with
   | zero => exact absurd HA.out (by simp [laws_eqIntS.l0])
   | succ k1 =>
    have H := HA.out; clear HA; simp only [laws_eqIntS.l0] at H; by_cases c4 : j0 < (l0.length : Int)
    ·
     rw [if_pos c4] at H; have je := dl c4; clear c4; by_cases c5 : 0 ≤ j0
     ·
      rw [if_pos c5] at H; have jh := de c5; clear c5; by_cases c6 : j0 < (l1.length : Int)
      ·
       rw [if_pos c6] at H; have ji := dl c6; clear c6; by_cases c7 : (rd l0 j0) = (rd l1 j0)
       ·
        rw [if_pos c7] at H; obtain ⟨jf, jg⟩ := dq c7; clear c7; have H' := Aside0.mk H; clear H; have j1 : 0 ≤ (j0 : Int) := ua; have j2 : j0 < (l0.length : Int) := ua; obtain ⟨jc, j7, j5⟩ := Kd.at_int HR0.out j0 j1 j2
        cases j7
        replace j1 := eq_true j1; replace j2 := eq_true j2; have j3 : 0 ≤ (j0 : Int) := ua; have j4 : j0 < (l1.length : Int) := ua; obtain ⟨jd, j8, j6⟩ := Kd.at_int HR1.out j0 j3 j4
        cases j8
        replace j3 := eq_true j3; replace j4 := eq_true j4; go_wp2
        repeat (go_quiet (fail); try go_wp2)
        go_roundg k1
        case measure => have := HK1.out; omega
        case rel => exact ⟨(wrap64 (j0 + 1)), ue, H', ⟨by have := HK1.out; omega⟩, by repeat (first | exact Drawn0.refl _ | apply Drawn0.step)⟩
       ·
        rw [if_neg c7] at H; obtain ⟨jf, jg⟩ := dQ c7; obtain rfl := Option.some.inj H; have j1 : 0 ≤ (j0 : Int) := ua; have j2 : j0 < (l0.length : Int) := ua; obtain ⟨jc, j7, j5⟩ := Kd.at_int HR0.out j0 j1 j2
        cases j7
        replace j1 := eq_true j1; replace j2 := eq_true j2; have j3 : 0 ≤ (j0 : Int) := ua; have j4 : j0 < (l1.length : Int) := ua; obtain ⟨jd, j8, j6⟩ := Kd.at_int HR1.out j0 j3 j4
        cases j8
        replace j3 := eq_true j3; replace j4 := eq_true j4; go_wp2
        repeat (go_quiet (fail); try go_wp2)
        go_ret; exact ⟨by first | rfl | (simp; done) | (simp [*]; done), by repeat (first | exact Drawn0.refl _ | apply Drawn0.step)⟩
      ·
       rw [if_neg c6] at H; exact absurd H (by simp)
     ·
      rw [if_neg c5] at H; exact absurd H (by simp)
    ·
     rw [if_neg c4] at H; have je := DL c4; clear c4; obtain rfl := Option.some.inj H; go_wp2
     go_ret; exact ⟨by first | rfl | (simp; done) | (simp [*]; done), by repeat (first | exact Drawn0.refl _ | apply Drawn0.step)⟩
 ·
  rw [if_neg c3] at H; obtain ⟨j9, ja⟩ := dQ c3; have jb : (l0.length == l1.length) = false := by first | simpa using c3 | (simp at c3 ⊢; omega)
  obtain rfl := Option.some.inj H; go_enter Try.func24, Try.ntmps24; go_wp2
  go_ret; exact ⟨by first | rfl | (simp; done) | (simp [*]; done), by repeat (exact Drawn0.refl _)⟩

end Go.Proofs.Ytdlaaccnaokdnaa.P
namespace Go.Proofs.Ytdlaaccnaokdnaa.P
open Go.RowKit Go.Proofs.YtdlaaccnaokdnaaV.PrintWords Go.Proofs.YtdlaaccnaokdnaaV.PrintLast
set_option linter.unusedVariables false
set_option linter.unusedSimpArgs false

/-! ### laws_eqArc: function 98 -/
def laws_eqArc.f (a0_0 : Int) (a0_1 : Int) (a0_2 : Int) (a0_3 : Int) (a0_4 : Int) (a1_0 : Int) (a1_1 : Int) (a1_2 : Int) (a1_3 : Int) (a1_4 : Int) : Option (Bool) := if a0_0 = a1_0 then (if a0_1 = a1_1 then (if a0_2 = a1_2 then (if a0_3 = a1_3 then (if a0_4 = a1_4 then (some true) else (some false)) else (some false)) else (some false)) else (some false)) else (some false)
set_option maxHeartbeats 8000000 in
set_option maxRecDepth 100000 in
theorem laws_eqArc.calls (a0_0 : Int) (a0_1 : Int) (a0_2 : Int) (a0_3 : Int) (a0_4 : Int) (a1_0 : Int) (a1_1 : Int) (a1_2 : Int) (a1_3 : Int) (a1_4 : Int) (r : Bool) (w : World) (h : laws_eqArc.f a0_0 a0_1 a0_2 a0_3 a0_4 a1_0 a1_1 a1_2 a1_3 a1_4 = some r) :
  Calls Try.prog 98 #[.agg #[.int .i64 a0_0, .int .i64 a0_1, .int .i64 a0_2, .int .i64 a0_3, .int .i64 a0_4], .agg #[.int .i64 a1_0, .int .i64 a1_1, .int .i64 a1_2, .int .i64 a1_3, .int .i64 a1_4]] w fun e w' => e = .returned (.bool r) ∧ Below w.heap.size w w' := by
 have hu61 := Try.underlying61
 have HB := Aside0.mk (Below.refl w.heap.size w)
 have H : (if a0_0 = a1_0 then (if a0_1 = a1_1 then (if a0_2 = a1_2 then (if a0_3 = a1_3 then (if a0_4 = a1_4 then (some true) else (some false)) else (some false)) else (some false)) else (some false)) else (some false)) = some r := h
 clear h
 have HH_ := Aside0.mk H
 clear H
 go_enter Try.func98, Try.ntmps98
 go_upto_region 1 with (first | ((with_reducible refine gate_dst (N := 2) rfl ?_); refine be (cs := #[.int .i64 a0_0, .int .i64 a0_1, .int .i64 a0_2, .int .i64 a0_3, .int .i64 a0_4]) (t := 61) ?_; intro gb101 hg w3 hbox hb; have BK101 := Aside0.mk (hbox); have GW101 := gz w hg (uB0 HB); have GE101 := gz w hg (uB0 HB); replace HB := Aside0.mk (below_step (uB0 HB) hb); clear hb hbox hg) | ((with_reducible refine gate_dst (N := 3) rfl ?_); refine be (cs := #[.int .i64 a1_0, .int .i64 a1_1, .int .i64 a1_2, .int .i64 a1_3, .int .i64 a1_4]) (t := 61) ?_; intro gb102 hg w4 hbox hb; have BK102 := Aside0.mk (hbox); have GW102 := gz w hg (uB1 HB GE101.out); have GE102 := gz w hg (uB1 HB GE101.out); replace HB := Aside0.mk (below_step (uB1 HB GE101.out) hb); have NB101_102 := gl hg BK101; have NB102_101 := gr hg BK101; replace BK101 := bb BK101 hb; clear hb hbox hg; have hnb5 := NB101_102.out; have hnc5 := NB102_101.out; obtain ⟨hcz6_0, hcz6_1, hcz6_2, hcz6_3, hcz6_4, hfz6_0, hfz6_1, hfz6_2, hfz6_3, hfz6_4⟩ := bc5 BK101; obtain ⟨hcz7_0, hcz7_1, hcz7_2, hcz7_3, hcz7_4, hfz7_0, hfz7_1, hfz7_2, hfz7_3, hfz7_4⟩ := bc5 BK102))
 have H := HH_.out
 clear HH_
 by_cases c8 : a0_0 = a1_0
 ·
  rw [if_pos c8] at H; obtain ⟨c8b0, c8b1⟩ := dq c8; clear c8; by_cases c9 : a0_1 = a1_1
  ·
   rw [if_pos c9] at H; obtain ⟨c9b0, c9b1⟩ := dq c9; clear c9; by_cases c10 : a0_2 = a1_2
   ·
    rw [if_pos c10] at H; obtain ⟨c10b0, c10b1⟩ := dq c10; clear c10; by_cases c11 : a0_3 = a1_3
    ·
     rw [if_pos c11] at H; obtain ⟨c11b0, c11b1⟩ := dq c11; clear c11; by_cases c12 : a0_4 = a1_4
     ·
      rw [if_pos c12] at H; obtain ⟨c12b0, c12b1⟩ := dq c12; clear c12; obtain rfl := Option.some.inj H; go_wp2; go_ret; exact ⟨ux, uB2 HB GE101.out GE102.out⟩
     ·
      rw [if_neg c12] at H; obtain ⟨c12b0, c12b1⟩ := dQ c12; obtain rfl := Option.some.inj H; go_wp2; go_ret; exact ⟨ux, uB2 HB GE101.out GE102.out⟩
    ·
     rw [if_neg c11] at H; obtain ⟨c11b0, c11b1⟩ := dQ c11; obtain rfl := Option.some.inj H; go_wp2; go_ret; exact ⟨ux, uB2 HB GE101.out GE102.out⟩
   ·
    rw [if_neg c10] at H; obtain ⟨c10b0, c10b1⟩ := dQ c10; obtain rfl := Option.some.inj H; go_wp2; go_ret; exact ⟨ux, uB2 HB GE101.out GE102.out⟩
  ·
   rw [if_neg c9] at H; obtain ⟨c9b0, c9b1⟩ := dQ c9; obtain rfl := Option.some.inj H; go_wp2; go_ret; exact ⟨ux, uB2 HB GE101.out GE102.out⟩
 ·
  rw [if_neg c8] at H; obtain ⟨c8b0, c8b1⟩ := dQ c8; obtain rfl := Option.some.inj H; go_wp2; go_ret; exact ⟨ux, uB2 HB GE101.out GE102.out⟩

end Go.Proofs.Ytdlaaccnaokdnaa.P
namespace Go.Proofs.Ytdlaaccnaokdnaa.P
open Go.RowKit Go.Proofs.YtdlaaccnaokdnaaV.PrintWords Go.Proofs.YtdlaaccnaokdnaaV.PrintLast
set_option linter.unusedVariables false
set_option linter.unusedSimpArgs false

/-! ### laws_eqArcS: function 60 -/
def laws_eqArcS.l0 : Nat → List (S61) → List (S61) → Int → Option (Bool)
 | 0, _, _, _ => none
 | k + 1, x0, x1, x5 => if x5 < (x0.length : Int) then (if 0 ≤ x5 then (if x5 < (x1.length : Int) then ((laws_eqArc.f ((rd_T61 x0 x5).f0) ((rd_T61 x0 x5).f1) ((rd_T61 x0 x5).f2) ((rd_T61 x0 x5).f3) ((rd_T61 x0 x5).f4) ((rd_T61 x1 x5).f0) ((rd_T61 x1 x5).f1) ((rd_T61 x1 x5).f2) ((rd_T61 x1 x5).f3) ((rd_T61 x1 x5).f4)).bind fun t103 => (if t103 = true then (laws_eqArcS.l0 k x0 x1 (wrap64 (x5 + 1))) else (some false))) else (none)) else (none)) else (some true)
def laws_eqArcS.f (k : Nat) (l0 : List (S61)) (l1 : List (S61)) : Option (Bool) := if (l0.length : Int) = (l1.length : Int) then (laws_eqArcS.l0 k l0 l1 0) else (some false)
def laws_eqArcS.T6 : Bool × List (List Nat × List Nat) := (true, [([], []), ([], []), ([0, 1], [0, 1]), ([2], [2]), ([], []), ([], []), ([4, 5], [4, 5]), ([6], [6]), ([3, 7], [3, 7]), ([8], [8])])
def laws_eqArcS.B6 : List Nat := [0, 0, 3, 7, 0, 0, 48, 112, 255, 511]
theorem laws_eqArcS.tab6 : rtab .any (opsOf Try.f60 6) = laws_eqArcS.T6 := by kernel_rfl
theorem laws_eqArcS.bits6 : waitsOk laws_eqArcS.T6.2 laws_eqArcS.B6 = true := by kernel_rfl
set_option maxHeartbeats 8000000 in
set_option maxRecDepth 100000 in
theorem laws_eqArcS.calls (k : Nat) (A0 : Option Addr) (c0 : Nat) (l0 : List (S61)) (A1 : Option Addr) (c1 : Nat) (l1 : List (S61)) (r : Bool) (w : World) (hr0 : Kd.C k61 w A0 l0.length l0) (hc0 : l0.length ≤ c0) (hr1 : Kd.C k61 w A1 l1.length l1) (hc1 : l1.length ≤ c1) (h : laws_eqArcS.f k l0 l1 = some r) :
  Calls Try.prog 60 #[.slice A0 l0.length c0, .slice A1 l1.length c1] w fun e w' => e = .returned (.bool r) ∧ Below w.heap.size w w' := by
 have hu61 := Try.underlying61
 have HR0 := Aside0.mk hr0
 have HC0 := Aside0.mk hc0
 clear hr0 hc0
 have HR1 := Aside0.mk hr1
 have HC1 := Aside0.mk hc1
 clear hr1 hc1
 have HB := Aside0.mk (Below.refl w.heap.size w)
 have H : (if (l0.length : Int) = (l1.length : Int) then (laws_eqArcS.l0 k l0 l1 0) else (some false)) = some r := h
 clear h
 by_cases c3 : (l0.length : Int) = (l1.length : Int)
 ·
  rw [if_pos c3] at H; obtain ⟨jt, ju⟩ := dq c3; have jv : (l0.length == l1.length) = true := by first | simpa using c3 | (simp at c3 ⊢; omega)
  clear c3; have H' := Aside0.mk H; clear H; go_enter Try.func60, Try.ntmps60; go_wp2; go_loopg [5] k (fun kq v5 w' => ∃ (j0 : Int), v5 = .int .i64 j0 ∧ Aside0 (laws_eqArcS.l0 kq l0 l1 j0 = some r) ∧ Aside0 (kq ≤ k) ∧ Aside0 (Below w.heap.size w w'))
  case atStart => exact ⟨(0), ue, H', ⟨Nat.le_refl _⟩, ⟨uB0 HB⟩⟩
  case round =>
   clear H'
   clear jt ju jv
   obtain ⟨j0, rfl, HA, HK1, HB⟩ := hrel
   cases gk with
   | zero => exact absurd HA.out (by simp [laws_eqArcS.l0])
   | succ k1 =>
    have H := HA.out; clear HA; simp only [laws_eqArcS.l0] at H; by_cases c4 : j0 < (l0.length : Int)
    ·
     rw [if_pos c4] at H; have jx := dl c4; clear c4; by_cases c5 : 0 ≤ j0
     ·
      rw [if_pos c5] at H; have jy := de c5; clear c5; by_cases c6 : j0 < (l1.length : Int)
      ·
       rw [if_pos c6] at H; have jz := dl c6; clear c6; replace H := Option.bind_eq_some_iff.mp H; obtain ⟨jw, A70, H⟩ := H; replace H : (if jw = true then (laws_eqArcS.l0 k1 l0 l1 (wrap64 (j0 + 1))) else (some false)) = some r := H; have A7 := Aside0.mk A70; clear A70; by_cases c8 : jw = true
       ·
        subst c8; rw [if_pos rfl] at H; have H' := Aside0.mk H; clear H; try go_wp2
        replace HB := Aside0.mk (below_drew1 HB.out); have jn : 0 ≤ (j0 : Int) := ua; have jo : j0 < (l0.length : Int) := ua; obtain ⟨j1, jr, j3, j4, j5, j6, j7⟩ := at_T61 HR0.out j0 jn jo; have jd := j7; have je := j6; have jf := j5; have jg := j4; have jh := j3
        cases jr
        replace j3 := uc HB j3; replace j4 := uc HB j4; replace j5 := uc HB j5; replace j6 := uc HB j6; replace j7 := uc HB j7; replace jn := eq_true jn; replace jo := eq_true jo; have jp : 0 ≤ (j0 : Int) := ua; have jq : j0 < (l1.length : Int) := ua; obtain ⟨j2, js, j8, j9, ja, jb, jc⟩ := at_T61 HR1.out j0 jp jq; have ji := jc; have jj := jb; have jk := ja; have jl := j9; have jm := j8
        cases js
        replace j8 := uc HB j8; replace j9 := uc HB j9; replace ja := uc HB ja; replace jb := uc HB jb; replace jc := uc HB jc; replace jp := eq_true jp; replace jq := eq_true jq; refine start_ (n := 10) (S := fun w' => w'.cell? (j1.add ((j0).toNat * 5)) = some (.int .i64 ((rd_T61 l0 j0).f0)) ∧ w'.cell? ⟨(j1.add ((j0).toNat * 5)).block, (j1.add ((j0).toNat * 5)).off + 1, none⟩ = some (.int .i64 ((rd_T61 l0 j0).f1)) ∧ w'.cell? ⟨(j1.add ((j0).toNat * 5)).block, (j1.add ((j0).toNat * 5)).off + 2, none⟩ = some (.int .i64 ((rd_T61 l0 j0).f2)) ∧ w'.cell? ⟨(j1.add ((j0).toNat * 5)).block, (j1.add ((j0).toNat * 5)).off + 3, none⟩ = some (.int .i64 ((rd_T61 l0 j0).f3)) ∧ w'.cell? ⟨(j1.add ((j0).toNat * 5)).block, (j1.add ((j0).toNat * 5)).off + 4, none⟩ = some (.int .i64 ((rd_T61 l0 j0).f4)) ∧ w'.cell? (j2.add ((j0).toNat * 5)) = some (.int .i64 ((rd_T61 l1 j0).f0)) ∧ w'.cell? ⟨(j2.add ((j0).toNat * 5)).block, (j2.add ((j0).toNat * 5)).off + 1, none⟩ = some (.int .i64 ((rd_T61 l1 j0).f1)) ∧ w'.cell? ⟨(j2.add ((j0).toNat * 5)).block, (j2.add ((j0).toNat * 5)).off + 2, none⟩ = some (.int .i64 ((rd_T61 l1 j0).f2)) ∧ w'.cell? ⟨(j2.add ((j0).toNat * 5)).block, (j2.add ((j0).toNat * 5)).off + 3, none⟩ = some (.int .i64 ((rd_T61 l1 j0).f3)) ∧ w'.cell? ⟨(j2.add ((j0).toNat * 5)).block, (j2.add ((j0).toNat * 5)).off + 4, none⟩ = some (.int .i64 ((rd_T61 l1 j0).f4))) (ds := []) (zt 10 0) (by kernel_rfl) rfl (by kernel_rfl) ⟨(ud HB jh), (ud HB jg), (ud HB jf), (ud HB je), (ud HB jd), (ud HB jm), (ud HB jl), (ud HB jk), (ud HB jj), (ud HB ji)⟩ (fun hHeld => ?_); refine with_tabW laws_eqArcS.tab6 laws_eqArcS.bits6 (fun HT_ HW_ => ?_); generalize wr.drew = w9 at HB j3 j4 j5 j6 j7 j8 j9 ja jb jc hHeld ⊢; refine qz HT_ 0 ?_; refine qz HT_ 1 ?_; refine qz HT_ 2 ?_; refine qz HT_ 4 ?_; refine qz HT_ 5 ?_; refine qz HT_ 6 ?_; refine qt HT_ HW_ hHeld 3 ?_; refine qt HT_ HW_ hHeld 7 ?_; refine qo HT_ 8 (fun K hK => ?_); refine goes_ Try.func98 (by kernel_rfl) rfl #[.agg #[.int .i64 ((rd_T61 l0 j0).f0), .int .i64 ((rd_T61 l0 j0).f1), .int .i64 ((rd_T61 l0 j0).f2), .int .i64 ((rd_T61 l0 j0).f3), .int .i64 ((rd_T61 l0 j0).f4)], .agg #[.int .i64 ((rd_T61 l1 j0).f0), .int .i64 ((rd_T61 l1 j0).f1), .int .i64 ((rd_T61 l1 j0).f2), .int .i64 ((rd_T61 l1 j0).f3), .int .i64 ((rd_T61 l1 j0).f4)]] (by rfl) rfl rfl ul ?_; with_reducible refine (laws_eqArc.calls ((rd_T61 l0 j0).f0) ((rd_T61 l0 j0).f1) ((rd_T61 l0 j0).f2) ((rd_T61 l0 j0).f3) ((rd_T61 l0 j0).f4) ((rd_T61 l1 j0).f0) ((rd_T61 l1 j0).f1) ((rd_T61 l1 j0).f2) ((rd_T61 l1 j0).f3) ((rd_T61 l1 j0).f4) true _ A7.out).mono ?_
        rintro e w10 ⟨rfl, hb⟩; refine ⟨_, rfl, ?_⟩; replace HB := Aside0.mk (below_step (uB0 HB) hb); (try clear hb); refine hK.out _ _ ⟨(ud HB jh), (ud HB jg), (ud HB jf), (ud HB je), (ud HB jd), (ud HB jm), (ud HB jl), (ud HB jk), (ud HB jj), (ud HB ji)⟩ (fun hHeld => ?_); clear hK K; refine nz ?_
        refine qz HT_ 9 ?_; refine done_ (done_of HT_.out (by kernel_rfl)) ?_; try go_wp2
        go_roundg k1
        case measure => have := HK1.out; omega
        case rel => exact ⟨(wrap64 (j0 + 1)), ue, H', ⟨by have := HK1.out; omega⟩, ⟨uB0 HB⟩⟩
       ·
        replace c8 := Bool.eq_false_iff.mpr c8; subst c8; rw [if_neg (show ¬ (false = true) by decide)] at H; obtain rfl := Option.some.inj H; try go_wp2
        replace HB := Aside0.mk (below_drew1 HB.out); have jn : 0 ≤ (j0 : Int) := ua; have jo : j0 < (l0.length : Int) := ua; obtain ⟨j1, jr, j3, j4, j5, j6, j7⟩ := at_T61 HR0.out j0 jn jo; have jd := j7; have je := j6; have jf := j5; have jg := j4; have jh := j3
        cases jr
        replace j3 := uc HB j3; replace j4 := uc HB j4; replace j5 := uc HB j5; replace j6 := uc HB j6; replace j7 := uc HB j7; replace jn := eq_true jn; replace jo := eq_true jo; have jp : 0 ≤ (j0 : Int) := ua; have jq : j0 < (l1.length : Int) := ua; obtain ⟨j2, js, j8, j9, ja, jb, jc⟩ := at_T61 HR1.out j0 jp jq; have ji := jc; have jj := jb; have jk := ja; have jl := j9; have jm := j8
        cases js
        replace j8 := uc HB j8; replace j9 := uc HB j9; replace ja := uc HB ja; replace jb := uc HB jb; replace jc := uc HB jc; replace jp := eq_true jp; replace jq := eq_true jq; refine start_ (n := 10) (S := fun w' => w'.cell? (j1.add ((j0).toNat * 5)) = some (.int .i64 ((rd_T61 l0 j0).f0)) ∧ w'.cell? ⟨(j1.add ((j0).toNat * 5)).block, (j1.add ((j0).toNat * 5)).off + 1, none⟩ = some (.int .i64 ((rd_T61 l0 j0).f1)) ∧ w'.cell? ⟨(j1.add ((j0).toNat * 5)).block, (j1.add ((j0).toNat * 5)).off + 2, none⟩ = some (.int .i64 ((rd_T61 l0 j0).f2)) ∧ w'.cell? ⟨(j1.add ((j0).toNat * 5)).block, (j1.add ((j0).toNat * 5)).off + 3, none⟩ = some (.int .i64 ((rd_T61 l0 j0).f3)) ∧ w'.cell? ⟨(j1.add ((j0).toNat * 5)).block, (j1.add ((j0).toNat * 5)).off + 4, none⟩ = some (.int .i64 ((rd_T61 l0 j0).f4)) ∧ w'.cell? (j2.add ((j0).toNat * 5)) = some (.int .i64 ((rd_T61 l1 j0).f0)) ∧ w'.cell? ⟨(j2.add ((j0).toNat * 5)).block, (j2.add ((j0).toNat * 5)).off + 1, none⟩ = some (.int .i64 ((rd_T61 l1 j0).f1)) ∧ w'.cell? ⟨(j2.add ((j0).toNat * 5)).block, (j2.add ((j0).toNat * 5)).off + 2, none⟩ = some (.int .i64 ((rd_T61 l1 j0).f2)) ∧ w'.cell? ⟨(j2.add ((j0).toNat * 5)).block, (j2.add ((j0).toNat * 5)).off + 3, none⟩ = some (.int .i64 ((rd_T61 l1 j0).f3)) ∧ w'.cell? ⟨(j2.add ((j0).toNat * 5)).block, (j2.add ((j0).toNat * 5)).off + 4, none⟩ = some (.int .i64 ((rd_T61 l1 j0).f4))) (ds := []) (zt 10 0) (by kernel_rfl) rfl (by kernel_rfl) ⟨(ud HB jh), (ud HB jg), (ud HB jf), (ud HB je), (ud HB jd), (ud HB jm), (ud HB jl), (ud HB jk), (ud HB jj), (ud HB ji)⟩ (fun hHeld => ?_); refine with_tabW laws_eqArcS.tab6 laws_eqArcS.bits6 (fun HT_ HW_ => ?_); generalize wr.drew = w11 at HB j3 j4 j5 j6 j7 j8 j9 ja jb jc hHeld ⊢; refine qz HT_ 0 ?_; refine qz HT_ 1 ?_; refine qz HT_ 2 ?_; refine qz HT_ 4 ?_; refine qz HT_ 5 ?_; refine qz HT_ 6 ?_; refine qt HT_ HW_ hHeld 3 ?_; refine qt HT_ HW_ hHeld 7 ?_; refine qo HT_ 8 (fun K hK => ?_); refine goes_ Try.func98 (by kernel_rfl) rfl #[.agg #[.int .i64 ((rd_T61 l0 j0).f0), .int .i64 ((rd_T61 l0 j0).f1), .int .i64 ((rd_T61 l0 j0).f2), .int .i64 ((rd_T61 l0 j0).f3), .int .i64 ((rd_T61 l0 j0).f4)], .agg #[.int .i64 ((rd_T61 l1 j0).f0), .int .i64 ((rd_T61 l1 j0).f1), .int .i64 ((rd_T61 l1 j0).f2), .int .i64 ((rd_T61 l1 j0).f3), .int .i64 ((rd_T61 l1 j0).f4)]] (by rfl) rfl rfl ul ?_; with_reducible refine (laws_eqArc.calls ((rd_T61 l0 j0).f0) ((rd_T61 l0 j0).f1) ((rd_T61 l0 j0).f2) ((rd_T61 l0 j0).f3) ((rd_T61 l0 j0).f4) ((rd_T61 l1 j0).f0) ((rd_T61 l1 j0).f1) ((rd_T61 l1 j0).f2) ((rd_T61 l1 j0).f3) ((rd_T61 l1 j0).f4) false _ A7.out).mono ?_
        rintro e w12 ⟨rfl, hb⟩; refine ⟨_, rfl, ?_⟩; replace HB := Aside0.mk (below_step (uB0 HB) hb); (try clear hb); refine hK.out _ _ ⟨(ud HB jh), (ud HB jg), (ud HB jf), (ud HB je), (ud HB jd), (ud HB jm), (ud HB jl), (ud HB jk), (ud HB jj), (ud HB ji)⟩ (fun hHeld => ?_); clear hK K; refine nz ?_
        refine qz HT_ 9 ?_; refine done_ (done_of HT_.out (by kernel_rfl)) ?_; try go_wp2
        go_ret; exact ⟨ux, uB0 HB⟩
      ·
       rw [if_neg c6] at H; exact absurd H (by simp)
     ·
      rw [if_neg c5] at H; exact absurd H (by simp)
    ·
     rw [if_neg c4] at H; have jx := DL c4; clear c4; obtain rfl := Option.some.inj H; go_wp2; go_ret; exact ⟨ux, uB0 HB⟩
 ·
  rw [if_neg c3] at H; obtain ⟨jt, ju⟩ := dQ c3; have jv : (l0.length == l1.length) = false := by first | simpa using c3 | (simp at c3 ⊢; omega)
  obtain rfl := Option.some.inj H; go_enter Try.func60, Try.ntmps60; go_wp2; go_ret; exact ⟨ux, uB0 HB⟩

end Go.Proofs.Ytdlaaccnaokdnaa.P
namespace Go.Proofs.Ytdlaaccnaokdnaa.P
open Go.RowKit Go.Proofs.YtdlaaccnaokdnaaV.PrintWords Go.Proofs.YtdlaaccnaokdnaaV.PrintLast
set_option linter.unusedVariables false
set_option linter.unusedSimpArgs false

/-! ### laws_eqNet: function 20 -/
def laws_eqNet.f (k : Nat) (a0_0 : Int) (l0_1 : List (S61)) (a1_0 : Int) (l1_1 : List (S61)) : Option (Bool) := if a0_0 = a1_0 then ((laws_eqArcS.f k l0_1 l1_1).bind fun t103 => (if t103 = true then (some true) else (some false))) else (some false)
set_option maxHeartbeats 8000000 in
set_option maxRecDepth 100000 in
theorem laws_eqNet.calls (k : Nat) (a0_0 : Int) (A0_1 : Option Addr) (c0_1 : Nat) (l0_1 : List (S61)) (a1_0 : Int) (A1_1 : Option Addr) (c1_1 : Nat) (l1_1 : List (S61)) (r : Bool) (w : World) (hr0_1 : Kd.C k61 w A0_1 l0_1.length l0_1) (hc0_1 : l0_1.length ≤ c0_1) (hr1_1 : Kd.C k61 w A1_1 l1_1.length l1_1) (hc1_1 : l1_1.length ≤ c1_1) (h : laws_eqNet.f k a0_0 l0_1 a1_0 l1_1 = some r) :
  Calls Try.prog 20 #[.agg #[.int .i64 a0_0, .slice A0_1 l0_1.length c0_1], .agg #[.int .i64 a1_0, .slice A1_1 l1_1.length c1_1]] w fun e w' => e = .returned (.bool r) ∧ Below w.heap.size w w' := by
 have hu35 := Try.underlying35
 have j7 := Aside0.mk hr0_1
 have j8 := Aside0.mk hc0_1
 clear hr0_1 hc0_1
 have j9 := Aside0.mk hr1_1
 have ja := Aside0.mk hc1_1
 clear hr1_1 hc1_1
 have HB := Aside0.mk (Below.refl w.heap.size w)
 have H : (if a0_0 = a1_0 then ((laws_eqArcS.f k l0_1 l1_1).bind fun j6 => (if j6 = true then (some true) else (some false))) else (some false)) = some r := h
 clear h
 have HH_ := Aside0.mk H
 clear H
 go_enter Try.func20, Try.ntmps20
 go_upto_region 1 with (first | ((with_reducible refine gate_dst (N := 2) rfl ?_); refine be (cs := #[.int .i64 a0_0, .slice A0_1 l0_1.length c0_1]) (t := 35) ?_; intro jl hg w3 hbox hb; have j0 := Aside0.mk (hbox); have jm := gz w hg (uB0 HB); have j1 := gz w hg (uB0 HB); replace HB := Aside0.mk (below_step (uB0 HB) hb); clear hb hbox hg) | ((with_reducible refine gate_dst (N := 3) rfl ?_); refine be (cs := #[.int .i64 a1_0, .slice A1_1 l1_1.length c1_1]) (t := 35) ?_; intro jn hg w4 hbox hb; have j2 := Aside0.mk (hbox); have jo := gz w hg (uB1 HB j1.out); have j3 := gz w hg (uB1 HB j1.out); replace HB := Aside0.mk (below_step (uB1 HB j1.out) hb); have j4 := gl hg j0; have j5 := gr hg j0; replace j0 := bb j0 hb; clear hb hbox hg; have jp := j4.out; have jq := j5.out; obtain ⟨jb, jc, jd, je⟩ := bc2 j0; obtain ⟨jf, jg, jh, ji⟩ := bc2 j2))
 have H := HH_.out
 clear HH_
 by_cases c8 : a0_0 = a1_0
 ·
  rw [if_pos c8] at H; obtain ⟨jj, jk⟩ := dq c8; clear c8; replace H := Option.bind_eq_some_iff.mp H; obtain ⟨j6, A90, H⟩ := H; replace H : (if j6 = true then (some true) else (some false)) = some r := H; have A9 := Aside0.mk A90; clear A90; by_cases c10 : j6 = true
  ·
   subst c10; rw [if_pos rfl] at H; obtain rfl := Option.some.inj H; go_wp2_with (((with_reducible refine gate_callee (f := 60) rfl ?_); refine goesL_ (some 14) rfl rfl Try.func60 (by kernel_rfl) rfl #[.slice A0_1 l0_1.length c0_1, .slice A1_1 l1_1.length c1_1] rfl ul ?_; (with_reducible refine (laws_eqArcS.calls k _ _ l0_1 _ _ l1_1 true _ ?side1 ?side2 ?side3 ?side4 A9.out).mono ?_); (case side1 => exact uC j7 HB); (case side2 => exact j8.out); (case side3 => exact uC j9 HB); (case side4 => exact ja.out); rintro e w8 ⟨rfl, hb⟩; refine ⟨_, rfl, ?_⟩; replace j0 := bb j0 hb; replace j2 := bb j2 hb; replace HB := Aside0.mk (below_step (uB2 HB j1.out j3.out) hb); (try clear hb))); go_ret; exact ⟨ux, uB2 HB j1.out j3.out⟩
  ·
   replace c10 := Bool.eq_false_iff.mpr c10; subst c10; rw [if_neg (show ¬ (false = true) by decide)] at H; obtain rfl := Option.some.inj H; go_wp2_with (((with_reducible refine gate_callee (f := 60) rfl ?_); refine goesL_ (some 14) rfl rfl Try.func60 (by kernel_rfl) rfl #[.slice A0_1 l0_1.length c0_1, .slice A1_1 l1_1.length c1_1] rfl ul ?_; (with_reducible refine (laws_eqArcS.calls k _ _ l0_1 _ _ l1_1 false _ ?side1 ?side2 ?side3 ?side4 A9.out).mono ?_); (case side1 => exact uC j7 HB); (case side2 => exact j8.out); (case side3 => exact uC j9 HB); (case side4 => exact ja.out); rintro e w8 ⟨rfl, hb⟩; refine ⟨_, rfl, ?_⟩; replace j0 := bb j0 hb; replace j2 := bb j2 hb; replace HB := Aside0.mk (below_step (uB2 HB j1.out j3.out) hb); (try clear hb))); go_ret; exact ⟨ux, uB2 HB j1.out j3.out⟩
 ·
  rw [if_neg c8] at H; obtain ⟨jj, jk⟩ := dQ c8; obtain rfl := Option.some.inj H; go_wp2; go_ret; exact ⟨ux, uB2 HB j1.out j3.out⟩

end Go.Proofs.Ytdlaaccnaokdnaa.P
