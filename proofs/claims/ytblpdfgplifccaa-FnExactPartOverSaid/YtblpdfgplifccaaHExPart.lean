/- The walk of the law FnExactPartOver, by hand: the rows of rows that came back are written over. -/
import Derived.Test.YtblpdfgplifccaaMHelpSS
import Derived.Test.YtblpdfgplifccaaMOver3
import Derived.Test.YtblpdfgplifccaaGMarks
set_option linter.unusedVariables false
set_option linter.unusedSimpArgs false
namespace Go.Proofs.Ytblpdfgplifccaa.P
open Go.RowKit Go.Proofs.YtblpdfgplifccaaV.PrintWords Go.Proofs.YtblpdfgplifccaaV.PrintLast Go.Proofs.YtblpdfgplifccaaV.PrintMore Go.Proofs.Ytblpdfgplifccaa.M
def exPartOver_T : Bool × List (List Nat × List Nat) := (true, [([], []), ([], []), ([1], [1]), ([0, 2, 2], [0, 2]), ([3], [3])])
def exPartOver_B : List Nat := [0, 0, 2, 7, 15]
theorem exPartOver_tab : rtab .any (opsOf Try.f14 13) = exPartOver_T := by kernel_rfl
theorem exPartOver_bits : waitsOk exPartOver_T.2 exPartOver_B = true := by kernel_rfl
set_option maxHeartbeats 16000000 in
set_option maxRecDepth 100000 in
theorem laws_FnExactPartOver.calls (a0_0 : Int) (A0_1 : Option Addr) (c0_1 : Nat) (l0_1 : List (S98)) (A1 : Option Addr) (c1 : Nat) (l1 : List Int) (w : World) (hr0 : Kd.C k98 w A0_1 l0_1.length l0_1) (hc0 : l0_1.length ≤ c0_1) (hr1 : Kd.C (Kd.int .i64) w A1 l1.length l1) (hc1 : l1.length ≤ c1) (hm : l0_1.length ≤ 9223372036854775807) :
    Calls Try.prog 14 #[.agg #[.int .i64 a0_0, .slice A0_1 l0_1.length c0_1], .slice A1 l1.length c1] w fun e w' => e = .returned (.bool true) ∧ Below w.heap.size w w' := by
  have hu40 := Try.underlying40
  have hu25 := Try.underlying25
  have HR0 := Aside0.mk hr0
  have HC0 := Aside0.mk hc0
  have HR1 := Aside0.mk hr1
  have HC1 := Aside0.mk hc1
  clear hr0 hc0 hr1 hc1
  have HB := Aside0.mk (Below.refl w.heap.size w)
  have ASZ := Aside0.mk (szNet_val a0_0 l0_1 hm)
  by_cases hx : (l1.length : Int) > 1048576
  · have hd := dl hx
    clear hx
    go_enter Try.func14, Try.ntmps14
    go_wp2_with ((with_reducible refine gate_dst (N := 2) rfl ?_); refine be (cs := #[.int .i64 a0_0, .slice A0_1 l0_1.length c0_1]) (t := 40) ?_; intro gb101 hg w5 hbox hb; have BK0 := Aside0.mk hbox; have GE101 := gz w hg (uB0 HB); replace HB := Aside0.mk (below_step (uB0 HB) hb); clear hb hbox hg; obtain ⟨hz0, hz1, hf0, hf1⟩ := bc2 BK0)
    go_ret
    exact ⟨rfl, uB1 HB GE101.out⟩
  have hdx := DL hx
  by_cases hL : l0_1.length ≤ 1048576
  rotate_left
  · rw [if_neg hL] at ASZ
    clear hx
    go_enter Try.func14, Try.ntmps14
    go_wp2_with (first | ((with_reducible refine gate_dst (N := 2) rfl ?_); refine be (cs := #[.int .i64 a0_0, .slice A0_1 l0_1.length c0_1]) (t := 40) ?_; intro gb101 hg w5 hbox hb; have BK0 := Aside0.mk hbox; have GE101 := gz w hg (uB0 HB); replace HB := Aside0.mk (below_step (uB0 HB) hb); clear hb hbox hg; obtain ⟨hz0, hz1, hf0, hf1⟩ := bc2 BK0) | (go_at_call 25; (with_reducible refine (laws_szNet.calls a0_0 _ _ l0_1 1048576 _ _ ?side1 ?side2 ASZ.out).mono ?_); (case side1 => exact uC HR0 HB); (case side2 => exact HC0.out); rintro e w6 ⟨rfl, hb⟩; replace BK0 := bb BK0 hb; replace HB := Aside0.mk (below_step (uB1 HB GE101.out) hb); clear hb; clear hz0 hz1 hf0 hf1; obtain ⟨hz0, hz1, hf0, hf1⟩ := bc2 BK0))
    go_ret
    exact ⟨rfl, uB1 HB GE101.out⟩
  rw [if_pos hL] at ASZ
  have hneg := DL (show ¬ (1048576 - (l0_1.length : Int)) < 0 by omega)
  obtain ⟨Ap, hAp⟩ : ∃ Ap, Ap = l0_1.map toA := ⟨_, rfl⟩
  have hAl : Ap.length = l0_1.length := by rw [hAp, List.length_map]
  obtain ⟨r, hI, hS, hrl, hrr⟩ := partOver_both a0_0 Ap l1 (by omega) (by omega)
  have hsum : msum r ≤ 64 := by
    have key : ∀ l : List (List Int), (∀ x ∈ l, x.length ≤ 8) → msum l ≤ 8 * l.length := by
      intro l
      induction l with
      | nil => intro _; exact Nat.le_refl _
      | cons x l ih =>
        intro h
        have h1 := h x (List.mem_cons_self ..)
        have h2 := ih (fun y hy => h y (List.mem_cons_of_mem _ hy))
        simp only [msum, List.map_cons, List.sum_cons, List.length_cons] at h2 ⊢
        omega
    have := key r hrr
    omega
  have hN := toNet_map a0_0 l0_1 hL
  rw [← hAp] at hN
  obtain ⟨k1, e1⟩ := hN.get
  obtain ⟨k2, e2⟩ := (toIntS_self l1 (by omega)).get
  obtain ⟨k4, e4⟩ := hS.get
  obtain ⟨k5, e5⟩ := hI.get
  obtain ⟨k6, e6⟩ := (eqIntSS_self r (by omega) (fun x hx => by have := hrr x hx; omega)).get
  obtain ⟨k7, e7⟩ := (eqNet_self a0_0 Ap (by omega)).get
  obtain ⟨k8, e8⟩ := (eqIntS_self l1 (by omega)).get
  obtain ⟨k10, e10⟩ := (markNet_marks a0_0 Ap 1 (by omega) (by omega)).get
  obtain ⟨k11, e11⟩ := (markIntS_marks l1 (1 + 5 * (Ap.length : Int)) (by omega) (by omega)).get
  obtain ⟨k13, e13⟩ := (heldIntSS_marks 1 r (by omega) (by omega) (by omega)).get
  have hs1 : Aside0 (r.length ≤ 1048576) := ⟨by omega⟩
  have hs2 : Aside0 (1 + (msum r : Int) ≤ 4611686018427387904) := ⟨by omega⟩
  have E1 := Aside0.mk e1
  have E2 := Aside0.mk e2
  have E4 := Aside0.mk e4
  have E5 := Aside0.mk e5
  have E6 := Aside0.mk e6
  have E7 := Aside0.mk e7
  have E8 := Aside0.mk e8
  have E10 := Aside0.mk e10
  have E11 := Aside0.mk e11
  have hd1 := DL (show ¬ (1 + 5 * (Ap.length : Int) + l1.length) < 0 by omega)
  have hd2 := DL (show ¬ (1 + (msum r : Int)) < 0 by omega)
  have HH : ∀ (A : Option Addr) (c : Nat) (W : World), Kd.C kSS W A (marksSS 1 r).length (marksSS 1 r) → r.length ≤ c → Calls Try.prog 46 #[.slice A r.length c, .int .i64 1] W fun e w' => e = .returned (.int .i64 (1 + (msum r : Int))) ∧ Drawn0 W w' := fun A c W h1 h2 => by
    have := laws_heldIntSS.calls k13 A c (marksSS 1 r) 1 _ W h1 (by rw [marksSS_length]; exact h2) e13
    rw [marksSS_length] at this
    exact this
  have HHE := Aside0.mk HH
  clear e1 e2 e4 e5 e6 e7 e8 e10 e11 e13 hN hAl hrl hrr hsum hAp HH hI hS hx
  go_enter Try.func14, Try.ntmps14
  go_upto_region 8 with (first | ((with_reducible refine gate_dst (N := 2) rfl ?_); refine be (cs := #[.int .i64 a0_0, .slice A0_1 l0_1.length c0_1]) (t := 40) ?_; intro gb101 hg w5 hbox hb; have BK0 := Aside0.mk hbox; have GE101 := gz w hg (uB0 HB); replace HB := Aside0.mk (below_step (uB0 HB) hb); clear hb hbox hg; obtain ⟨hz0, hz1, hf0, hf1⟩ := bc2 BK0) | (go_at_call 25; (with_reducible refine (laws_szNet.calls a0_0 _ _ l0_1 1048576 _ _ ?side1 ?side2 ASZ.out).mono ?_); (case side1 => exact uC HR0 HB); (case side2 => exact HC0.out); rintro e w6 ⟨rfl, hb⟩; replace BK0 := bb BK0 hb; replace HB := Aside0.mk (below_step (uB1 HB GE101.out) hb); clear hb; clear hz0 hz1 hf0 hf1; obtain ⟨hz0, hz1, hf0, hf1⟩ := bc2 BK0) | (go_at_call 26; (with_reducible refine (laws_toNet.calls k1 a0_0 _ _ l0_1 a0_0 Ap _ ?side1 ?side2 E1.out).mono ?_); (case side1 => exact uC HR0 HB); (case side2 => exact HC0.out); rintro e wa ⟨v1, rfl, ho0, hb⟩; obtain ⟨Ao1, co1, eo1⟩ := Kd.R_slice ho0; subst eo1; have HO1 := Aside0.mk (Kd.R_reads' ho0).2; replace BK0 := bb BK0 hb; replace HB := Aside0.mk (below_step (uB1 HB GE101.out) hb); clear hb ho0; clear hz0 hz1 hf0 hf1; obtain ⟨hz0, hz1, hf0, hf1⟩ := bc2 BK0) | (go_at_call 27; (with_reducible refine (laws_toIntS.calls k2 A1 c1 l1 l1 _ ?side1 ?side2 E2.out).mono ?_); (case side1 => exact uC HR1 HB); (case side2 => exact HC1.out); rintro e wb ⟨v2, rfl, ho0, hb⟩; obtain ⟨Ao2, co2, eo1⟩ := Kd.R_slice ho0; subst eo1; have HO2 := Aside0.mk (Kd.R_reads' ho0).2; replace BK0 := bb BK0 hb; replace HB := Aside0.mk (below_step (uB1 HB GE101.out) hb); replace HO1 := Aside0.mk (And.intro HO1.out.1 (Kd.C_below HO1.out.2 hb)); clear hb ho0; clear hz0 hz1 hf0 hf1; obtain ⟨hz0, hz1, hf0, hf1⟩ := bc2 BK0) | (go_at_call 50; (with_reducible refine (spec_PartOver.calls k4 a0_0 _ _ Ap _ _ l1 r _ ?side1 ?side2 ?side3 ?side4 E4.out).mono ?_); (case side1 => exact uD HO1.out.2); (case side2 => exact HO1.out.1); (case side3 => exact uD HO2.out.2); (case side4 => exact HO2.out.1); rintro e w8 ⟨v4, rfl, ho0, hb⟩; obtain ⟨Aw, cw, eo1⟩ := Kd.S_slice ho0; subst eo1; have HWC := Aside0.mk (Kd.S_reads' ho0).2; replace BK0 := bb BK0 hb; replace HB := Aside0.mk (below_step (uB1 HB GE101.out) hb); clear HO1 HO2; clear hb ho0; clear hz0 hz1 hf0 hf1; obtain ⟨hz0, hz1, hf0, hf1⟩ := bc2 BK0))
  have HWL := Aside0.mk HWC.out.1
  replace HWC := Aside0.mk HWC.out.2
  have HB1 := Aside0.mk (Below.refl w8.heap.size w8)
  have HLT : Aside0 (gb101 < w8.heap.size) := ⟨blk_lt BK0.out⟩
  go_upto_region 9 with (first | (go_at_call 26; (with_reducible refine (laws_toNet.calls k1 a0_0 _ _ l0_1 a0_0 Ap _ ?side1 ?side2 E1.out).mono ?_); (case side1 => exact uC HR0 HB); (case side2 => exact HC0.out); rintro e w9 ⟨v5, rfl, ho0, hb⟩; obtain ⟨Ao5, co5, eo1⟩ := Kd.R_slice ho0; subst eo1; have HX : Aside0 (Kd.R k33 33 w9 w8.heap.size (fun k => w8.heap.size ≤ k ∧ k < w9.heap.size) (.slice Ao5 Ap.length co5) Ap) := ⟨Kd.R_mono (Kd.R_bound ho0) (fun k hk => ⟨hk.2.1, hk.2.2.1⟩)⟩; have SZ1 : Aside0 (w8.heap.size ≤ w9.heap.size) := ⟨hb.size⟩; replace BK0 := bb BK0 hb; replace HB1 := Aside0.mk (below_step HB1.out hb); clear hb ho0 hz0 hz1 hf0 hf1) | ((with_reducible refine gate_dst (N := 7) rfl ?_); refine be (cs := #[.int .i64 0, .slice none 0 0]) (t := 25) ?_; intro gb102 hg w10 hbox hb; have BK2 := Aside0.mk hbox; have GE102 : Aside0 (w9.heap.size ≤ gb102) := ⟨Nat.le_of_eq hg.symm⟩; have SZ2 : Aside0 (w9.heap.size ≤ w10.heap.size) := ⟨hb.size⟩; have NB101_102 := gl hg BK0; replace BK0 := bb BK0 hb; replace HX := Aside0.mk (Kd.R_below (ur HX) hb); replace HB1 := Aside0.mk (below_step HB1.out hb); clear hb hbox hg; obtain ⟨hz0, hz1, hf0, hf1⟩ := bc2 BK2))
  have n1_ : Aside0 (((w10.setCell ⟨gb102, 0, none⟩ (.int .i64 a0_0)).setCell ⟨gb102, 1, none⟩ (.slice Ao5 Ap.length co5)).heap[gb101]? = some (.cells #[.int .i64 a0_0, .slice A0_1 l0_1.length c0_1] 40 (0, 0))) := ⟨fa2 (ub BK0) NB101_102⟩
  have n2_ : Aside0 (((w10.setCell ⟨gb102, 0, none⟩ (.int .i64 a0_0)).setCell ⟨gb102, 1, none⟩ (.slice Ao5 Ap.length co5)).heap[gb102]? = some (.cells #[.int .i64 a0_0, .slice Ao5 Ap.length co5] 25 (0, 0))) := ⟨pu2 (.int .i64 0) (.slice none 0 0) BK2.out⟩
  have n3_ : Aside0 (Kd.R k33 33 ((w10.setCell ⟨gb102, 0, none⟩ (.int .i64 a0_0)).setCell ⟨gb102, 1, none⟩ (.slice Ao5 Ap.length co5)) w8.heap.size (fun k => w8.heap.size ≤ k ∧ k < w9.heap.size) (.slice Ao5 Ap.length co5) Ap) := ⟨Kd.R_mono (rf2 HX BK2) (fun _ hk => hk.1)⟩
  have HSZ0 : Aside0 (w8.heap.size ≤ gb102) := ⟨by have h1 := GE102.out; have h2 := SZ1.out; omega⟩
  have n4_ : Aside0 (Below w8.heap.size w8 ((w10.setCell ⟨gb102, 0, none⟩ (.int .i64 a0_0)).setCell ⟨gb102, 1, none⟩ (.slice Ao5 Ap.length co5))) := ⟨uB1 HB1 HSZ0.out⟩
  have SZ3 : Aside0 (w9.heap.size ≤ ((w10.setCell ⟨gb102, 0, none⟩ (.int .i64 a0_0)).setCell ⟨gb102, 1, none⟩ (.slice Ao5 Ap.length co5)).heap.size) := ⟨by have := SZ2.out; simpa using this⟩
  clear BK0 BK2 HX HB1 SZ2 hz0 hz1 hf0 hf1
  generalize ((w10.setCell ⟨gb102, 0, none⟩ (.int .i64 a0_0)).setCell ⟨gb102, 1, none⟩ (.slice Ao5 Ap.length co5)) = w11 at n1_ n2_ n3_ n4_ SZ3 ⊢
  have BK0 := n1_
  have BK2 := n2_
  have HX := n3_
  have HB1 := n4_
  clear n1_ n2_ n3_ n4_
  obtain ⟨hz0, hz1, hf0, hf1⟩ := bc2 BK2
  go_upto_region 10 with (go_at_call 27; (with_reducible refine (laws_toIntS.calls k2 A1 c1 l1 l1 _ ?side1 ?side2 E2.out).mono ?_); (case side1 => exact Kd.C_below HR1.out (below_step HB.out HB1.out)); (case side2 => exact HC1.out); rintro e w12 ⟨y, rfl, ho0, hb⟩; obtain ⟨Ay, cy, eo1⟩ := Kd.R_slice ho0; subst eo1; have HY : Aside0 (Kd.R (Kd.int .i64) 3 w12 w8.heap.size (fun k => w11.heap.size ≤ k ∧ k < w12.heap.size) (.slice Ay l1.length cy) l1) := ⟨Kd.R_lower (Kd.R_mono (Kd.R_bound ho0) (fun k hk => ⟨hk.2.1, hk.2.2.1⟩)) (HB1.out.size)⟩; have SZ_HY : Aside0 (w11.heap.size ≤ w12.heap.size) := ⟨hb.size⟩; replace HX := Aside0.mk (Kd.R_below (ur HX) hb); replace BK0 := bb BK0 hb; replace BK2 := bb BK2 hb; replace HB1 := Aside0.mk (below_step HB1.out hb); clear hb ho0; clear hz0 hz1 hf0 hf1; obtain ⟨hz0, hz1, hf0, hf1⟩ := bc2 BK2)
  have HSZ : Aside0 (w8.heap.size ≤ w9.heap.size ∧ w9.heap.size ≤ w11.heap.size ∧ w11.heap.size ≤ w12.heap.size) := ⟨SZ1.out, SZ3.out, SZ_HY.out⟩
  go_upto_region 11 with (go_at_call 48; (with_reducible refine (impl_PartOver.calls k5 a0_0 _ _ Ap _ _ l1 r _ ?side1 ?side2 ?side3 ?side4 E5.out).mono ?_); (case side1 => exact uD (Kd.R_reads' HX.out).2.2); (case side2 => exact (Kd.R_reads' HX.out).2.1); (case side3 => exact uD (Kd.R_reads' HY.out).2.2); (case side4 => exact (Kd.R_reads' HY.out).2.1); rintro e w14 ⟨vg, rfl, ho0, hb⟩; obtain ⟨Ag, cg, eo1⟩ := Kd.S_slice ho0; subst eo1; have HG : Aside0 (Kd.S kSS 26 w14 w8.heap.size (fun k => w12.heap.size ≤ k) (.slice Ag r.length cg) r) := ⟨Kd.S_lower (Kd.S_mono (Kd.S_bound ho0) (fun k hk => hk.2.1)) HB1.out.size⟩; replace HX := Aside0.mk (Kd.R_below (ur HX) hb); replace HY := Aside0.mk (Kd.R_below (ur HY) hb); replace BK0 := bb BK0 hb; replace BK2 := bb BK2 hb; replace HB1 := Aside0.mk (below_step HB1.out hb); clear hb ho0; clear hz0 hz1 hf0 hf1)
  go_upto_region 13 with (go_at_call 44; (with_reducible refine (laws_eqIntSS.calls k6 Ag cg r Aw cw r true _ ?side1 ?side2 ?side3 ?side4 E6.out).mono ?_); (case side1 => exact uD (Kd.S_reads' HG.out).2.2); (case side2 => exact (Kd.S_reads' HG.out).2.1); (case side3 => exact uC HWC HB1); (case side4 => exact HWL.out); rintro e w' ⟨rfl, ⟨nd, rfl⟩⟩; replace HG := Aside0.mk (Kd.S_drewN HG.out nd); replace HX := Aside0.mk (Kd.R_drewN HX.out nd); replace HY := Aside0.mk (Kd.R_drewN HY.out nd); replace BK0 := Aside0.mk (blk_drewN BK0.out nd); replace BK2 := Aside0.mk (blk_drewN BK2.out nd); replace HB1 := Aside0.mk (pw_below_drewN HB1.out nd); generalize w14.drewN nd = w15 at HG HX HY BK0 BK2 HB1 ⊢)
  replace HG := Aside0.mk (Kd.S_drew HG.out)
  replace HX := Aside0.mk (Kd.R_drew HX.out)
  replace HY := Aside0.mk (Kd.R_drew HY.out)
  replace BK0 := Aside0.mk (blk_drew BK0.out)
  replace BK2 := Aside0.mk (blk_drew BK2.out)
  replace HB1 := Aside0.mk (below_drew1 HB1.out)
  refine start_ (n := 5) (S := fun w' => w'.cell? ⟨gb102, 0, none⟩ = some (.int .i64 a0_0) ∧ w'.cell? ⟨gb102, 1, none⟩ = some (.slice Ao5 Ap.length co5) ∧ w'.cell? ⟨gb101, 0, none⟩ = some (.int .i64 a0_0) ∧ w'.cell? ⟨gb101, 1, none⟩ = some (.slice A0_1 l0_1.length c0_1)) (ds := []) (zt 5 0) (by kernel_rfl) rfl (by kernel_rfl) (b22_ BK2 BK0) (fun hHeld => ?_)
  refine with_tabW exPartOver_tab exPartOver_bits (fun HT_ HW_ => ?_)
  generalize w15.drew = w16 at HG HX HY BK0 BK2 HB1 hHeld ⊢
  refine qt HT_ HW_ hHeld 0 ?_
  refine qt HT_ HW_ hHeld 1 ?_
  refine qo HT_ 2 (fun K hK => ?_)
  refine goes_ Try.func26 (by kernel_rfl) rfl #[.agg #[.int .i64 a0_0, .slice A0_1 l0_1.length c0_1]] (by rfl) rfl rfl ul ?_
  refine (laws_toNet.calls k1 a0_0 _ _ l0_1 a0_0 Ap _ (Kd.C_below HR0.out (below_step HB.out HB1.out)) HC0.out E1.out).mono ?_
  rintro e w17 ⟨vt, rfl, ho0, hb⟩
  refine ⟨_, rfl, ?_⟩
  obtain ⟨At, ct, eo1⟩ := Kd.R_slice ho0
  subst eo1
  have HTT := Aside0.mk (Kd.R_reads' ho0).2
  replace HG := Aside0.mk (Kd.S_below HG.out hb)
  replace HX := Aside0.mk (Kd.R_below (ur HX) hb)
  replace HY := Aside0.mk (Kd.R_below (ur HY) hb)
  replace BK0 := bb BK0 hb
  replace BK2 := bb BK2 hb
  replace HB1 := Aside0.mk (below_step HB1.out hb)
  clear hb ho0
  refine hK.out _ _ (b22_ BK2 BK0) (fun hHeld => ?_)
  clear hK K
  refine nz ?_
  refine qo HT_ 3 (fun K hK => ?_)
  refine goes_ Try.func28 (by kernel_rfl) rfl #[.agg #[.int .i64 a0_0, .slice Ao5 Ap.length co5], .agg #[.int .i64 a0_0, .slice At Ap.length ct]] (by rfl) rfl rfl ul ?_
  refine (laws_eqNet.calls k7 a0_0 _ _ Ap a0_0 _ _ Ap true _ (Kd.R_reads' HX.out).2.2 (Kd.R_reads' HX.out).2.1 HTT.out.2 HTT.out.1 E7.out).mono ?_
  rintro e w18 ⟨rfl, hb⟩
  refine ⟨_, rfl, ?_⟩
  replace HG := Aside0.mk (Kd.S_below HG.out hb)
  replace HX := Aside0.mk (Kd.R_below (ur HX) hb)
  replace HY := Aside0.mk (Kd.R_below (ur HY) hb)
  replace BK0 := bb BK0 hb
  replace BK2 := bb BK2 hb
  replace HB1 := Aside0.mk (below_step HB1.out hb)
  clear hb HTT
  refine hK.out _ _ (b22_ BK2 BK0) (fun hHeld => ?_)
  clear hK K
  refine nz ?_
  refine qz HT_ 4 ?_
  refine done_ (done_of HT_.out (by kernel_rfl)) ?_
  clear HT_ HW_ hHeld
  have HGL : Aside0 (r.length ≤ cg) := ⟨(Kd.S_reads' HG.out).2.1⟩
  go_upto_region 17 with (first | (go_at_call 27; (with_reducible refine (laws_toIntS.calls k2 A1 c1 l1 l1 _ ?side1 ?side2 E2.out).mono ?_); (case side1 => exact Kd.C_below HR1.out (below_step HB.out HB1.out)); (case side2 => exact HC1.out); rintro e w18b ⟨vt, rfl, ho0, hb⟩; obtain ⟨At, ct, eo1⟩ := Kd.R_slice ho0; subst eo1; have HTT := Aside0.mk (Kd.R_reads' ho0).2; replace HG := Aside0.mk (Kd.S_below HG.out hb); replace HX := Aside0.mk (Kd.R_below (ur HX) hb); replace HY := Aside0.mk (Kd.R_below (ur HY) hb); replace BK0 := bb BK0 hb; replace BK2 := bb BK2 hb; replace HB1 := Aside0.mk (below_step HB1.out hb); clear hb ho0) | (go_at_call 29; (with_reducible refine (laws_eqIntS.calls k8 Ay cy l1 At ct l1 true _ ?side1 ?side2 ?side3 ?side4 E8.out).mono ?_); (case side1 => exact uD (Kd.R_reads' HY.out).2.2); (case side2 => exact (Kd.R_reads' HY.out).2.1); (case side3 => exact uD HTT.out.2); (case side4 => exact HTT.out.1); rintro e w' ⟨rfl, ⟨nd, rfl⟩⟩; clear HTT; replace HG := Aside0.mk (Kd.S_drewN HG.out nd); replace HX := Aside0.mk (Kd.R_drewN HX.out nd); replace HY := Aside0.mk (Kd.R_drewN HY.out nd); replace BK0 := Aside0.mk (blk_drewN BK0.out nd); replace BK2 := Aside0.mk (blk_drewN BK2.out nd); replace HB1 := Aside0.mk (pw_below_drewN HB1.out nd); generalize w18b.drewN nd = w19 at HG HX HY BK0 BK2 HB1 ⊢))
  obtain ⟨hz0, hz1, hf0, hf1⟩ := bc2 BK2
  go_upto_region 19 with (go_at_call 32; refine (laws_markNet.calls k10 a0_0 (fun k => w8.heap.size ≤ k ∧ k < w9.heap.size) (.slice Ao5 Ap.length co5) Ap 1 _ _ w8 _ HB1.out HX.out E10.out).mono ?_; rintro e w20 ⟨rfl, hy, hb, hk⟩; replace BK0 := Aside0.mk (blk_kept BK0.out hk (fun hs_ => by have h1 := HLT.out; have h2 := hs_.1; have h3 := HSZ.out; omega)); replace HG := Aside0.mk (Kd.S_step HG.out (fun k hok hlt => hk.2 k hlt (fun hs_ => by have h3 := HSZ.out; have h4 := hs_.1; have h5 := hs_.2; have h6 := hok; omega))); replace HY := Aside0.mk (Kd.R_step HY.out (fun k hok hlt => hk.2 k hlt (fun hs_ => by have h3 := HSZ.out; have h4 := hs_.1; have h5 := hs_.2; have h6 := hok; omega))); replace HB1 := Aside0.mk hb; clear hy hb hk HX BK2 hz0 hz1 hf0 hf1)
  go_upto_region 20 with (go_at_call 33; refine (laws_markIntS.calls k11 (fun k => w11.heap.size ≤ k ∧ k < w12.heap.size) (.slice Ay l1.length cy) l1 _ _ _ w8 _ HB1.out HY.out E11.out).mono ?_; rintro e w22 ⟨rfl, hy, hb, hk⟩; replace BK0 := Aside0.mk (blk_kept BK0.out hk (fun hs_ => by have h1 := HLT.out; have h2 := hs_.1; have h3 := HSZ.out; omega)); replace HG := Aside0.mk (Kd.S_step HG.out (fun k hok hlt => hk.2 k hlt (fun hs_ => by have h3 := HSZ.out; have h4 := hs_.1; have h5 := hs_.2; have h6 := hok; omega))); replace HB1 := Aside0.mk hb; clear hy hb hk HY)
  go_upto_region 23 with (go_at_call 44; (with_reducible refine (laws_eqIntSS.calls k6 Ag cg r Aw cw r true _ ?side1 ?side2 ?side3 ?side4 E6.out).mono ?_); (case side1 => exact uD (Kd.S_reads' HG.out).2.2); (case side2 => exact (Kd.S_reads' HG.out).2.1); (case side3 => exact uC HWC HB1); (case side4 => exact HWL.out); rintro e w' ⟨rfl, ⟨nd, rfl⟩⟩; replace HG := Aside0.mk (Kd.S_drewN HG.out nd); replace BK0 := Aside0.mk (blk_drewN BK0.out nd); replace HB1 := Aside0.mk (pw_below_drewN HB1.out nd); generalize w22.drewN nd = w23 at HG BK0 HB1 ⊢)
  go_upto_region 24 with (go_at_call 45; refine (laws_markIntSS_marks (.slice Ag r.length cg) r 1 w8 _ (fun k => w12.heap.size ≤ k) HB1.out HG.out (by decide) hs2.out hs1.out).mono ?_; rintro e w24 ⟨rfl, hs, hb, hk⟩; replace BK0 := Aside0.mk (blk_kept BK0.out hk (fun hs_ => by have h1 := HLT.out; have h2 := HSZ.out; omega)); replace HG := Aside0.mk hs; replace HB1 := Aside0.mk hb; clear hs hb hk)
  go_upto_region 30 with (go_at_call 46; refine (HHE.out Ag cg _ ?side1 ?side2).mono ?_; (case side1 => exact uD (Kd.S_reads' HG.out).2.2); (case side2 => exact HGL.out); rintro e w' ⟨rfl, ⟨nd, rfl⟩⟩; replace HG := Aside0.mk (Kd.S_drewN HG.out nd); replace BK0 := Aside0.mk (blk_drewN BK0.out nd); replace HB1 := Aside0.mk (pw_below_drewN HB1.out nd); generalize w24.drewN nd = w25 at HG BK0 HB1 ⊢)
  obtain ⟨hz0, hz1, hf0, hf1⟩ := bc2 BK0
  go_upto_region 31 with (first | (go_at_call 26; (with_reducible refine (laws_toNet.calls k1 a0_0 _ _ l0_1 a0_0 Ap _ ?side1 ?side2 E1.out).mono ?_); (case side1 => exact Kd.C_below HR0.out (below_step HB.out HB1.out)); (case side2 => exact HC0.out); rintro e w26 ⟨v6, rfl, ho0, hb⟩; obtain ⟨Ao6, co6, eo1⟩ := Kd.R_slice ho0; subst eo1; have HO6 := Aside0.mk (Kd.R_reads' ho0).2; replace HG := Aside0.mk (Kd.S_below HG.out hb); replace BK0 := bb BK0 hb; replace HB1 := Aside0.mk (below_step HB1.out hb); clear hb ho0) | (go_at_call 27; (with_reducible refine (laws_toIntS.calls k2 A1 c1 l1 l1 _ ?side1 ?side2 E2.out).mono ?_); (case side1 => exact Kd.C_below HR1.out (below_step HB.out HB1.out)); (case side2 => exact HC1.out); rintro e w27 ⟨vt, rfl, ho0, hb⟩; obtain ⟨A7, c7, eo1⟩ := Kd.R_slice ho0; subst eo1; have HO7 := Aside0.mk (Kd.R_reads' ho0).2; replace HO6 := Aside0.mk (And.intro HO6.out.1 (Kd.C_below HO6.out.2 hb)); replace HG := Aside0.mk (Kd.S_below HG.out hb); replace BK0 := bb BK0 hb; replace HB1 := Aside0.mk (below_step HB1.out hb); clear hb ho0) | (go_at_call 48; (with_reducible refine (impl_PartOver.calls k5 a0_0 _ _ Ap _ _ l1 r _ ?side1 ?side2 ?side3 ?side4 E5.out).mono ?_); (case side1 => exact uD HO6.out.2); (case side2 => exact HO6.out.1); (case side3 => exact uD HO7.out.2); (case side4 => exact HO7.out.1); rintro e w29 ⟨vh, rfl, ho0, hb⟩; obtain ⟨Ah, ch, eo1⟩ := Kd.S_slice ho0; subst eo1; have HH7 := Aside0.mk (Kd.S_reads' ho0).2; replace HG := Aside0.mk (Kd.S_below HG.out hb); replace BK0 := bb BK0 hb; replace HB1 := Aside0.mk (below_step HB1.out hb); clear hb ho0 HO6 HO7))
  clear hz0 hz1 hf0 hf1
  go_upto_region 34 with (go_at_call 44; (with_reducible refine (laws_eqIntSS.calls k6 Ah ch r Aw cw r true _ ?side1 ?side2 ?side3 ?side4 E6.out).mono ?_); (case side1 => exact uD HH7.out.2); (case side2 => exact HH7.out.1); (case side3 => exact uC HWC HB1); (case side4 => exact HWL.out); rintro e w' ⟨rfl, ⟨nd, rfl⟩⟩; replace HG := Aside0.mk (Kd.S_drewN HG.out nd); replace BK0 := Aside0.mk (blk_drewN BK0.out nd); replace HB1 := Aside0.mk (pw_below_drewN HB1.out nd); generalize w29.drewN nd = w30 at HG BK0 HB1 ⊢)
  go_wp2_with (first | (go_at_call 46; refine (HHE.out Ag cg _ ?side1 ?side2).mono ?_; (case side1 => exact uD (Kd.S_reads' HG.out).2.2); (case side2 => exact HGL.out); rintro e w' ⟨rfl, ⟨nd, rfl⟩⟩; replace HG := Aside0.mk (Kd.S_drewN HG.out nd); replace BK0 := Aside0.mk (blk_drewN BK0.out nd); replace HB1 := Aside0.mk (pw_below_drewN HB1.out nd); generalize w30.drewN nd = w31 at HG BK0 HB1 ⊢))
  go_ret
  exact ⟨rfl, below_step HB.out HB1.out⟩
end Go.Proofs.Ytblpdfgplifccaa.P
