/- The walk of the law FnExactRoundAll, by hand: the rows of rows that came back are written over. -/
import Derived.Test.YtcklifkbodmoaaaMHelpSS
import Derived.Test.YtcklifkbodmoaaaMRoundAll
import Derived.Test.YtcklifkbodmoaaaGPMarks
import Derived.Test.YtcklifkbodmoaaaPFSpecRoundall
import Derived.Test.YtcklifkbodmoaaaPFImplRoundall
set_option linter.unusedVariables false
set_option linter.unusedSimpArgs false
namespace Go.Proofs.Ytcklifkbodmoaaa.P
open Go.RowKit Go.Proofs.YtcklifkbodmoaaaV.PrintWords Go.Proofs.YtcklifkbodmoaaaV.PrintLast Go.Proofs.YtcklifkbodmoaaaV.PrintMore Go.Proofs.Ytcklifkbodmoaaa.M
def exRoundAll_T : Bool × List (List Nat × List Nat) := (true, [([], []), ([], []), ([1], [1]), ([0, 2, 2], [0, 2]), ([3], [3])])
def exRoundAll_B : List Nat := [0, 0, 2, 7, 15]
theorem exRoundAll_tab : rtab .any (opsOf Try.f10 10) = exRoundAll_T := by kernel_rfl
theorem exRoundAll_bits : waitsOk exRoundAll_T.2 exRoundAll_B = true := by kernel_rfl
set_option maxHeartbeats 8000000 in
set_option maxRecDepth 100000 in
theorem laws_FnExactRoundAll.calls (a0_0 : Int) (a0_1 : Int) (A0_2 : Option Addr) (c0_2 : Nat) (l0_2 : List (S99)) (a1 : Int) (a2 : Int) (a3 : Int) (w : World) (hr0_2 : Kd.C k99 w A0_2 l0_2.length l0_2) (hc0_2 : l0_2.length ≤ c0_2) (hm : l0_2.length ≤ 9223372036854775807) :
    Calls Try.prog 10 #[.agg #[.int .i64 a0_0, .int .i64 a0_1, .slice A0_2 l0_2.length c0_2], .int .i64 a1, .int .i64 a2, .int .i64 a3] w fun e w' => e = .returned (.bool true) ∧ Below w.heap.size w w' := by
  have hu46 := Try.underlying46
  have hu25 := Try.underlying25
  have HR0_2 := Aside0.mk hr0_2
  have HC0_2 := Aside0.mk hc0_2
  clear hr0_2 hc0_2
  have HB := Aside0.mk (Below.refl w.heap.size w)
  have ASZ := Aside0.mk (szPlan_val a0_0 a0_1 l0_2 hm)
  by_cases hL : l0_2.length ≤ 1048576
  rotate_left
  · rw [if_neg hL] at ASZ
    go_enter Try.func10, Try.ntmps10
    go_wp2_with (first | ((with_reducible refine gate_dst (N := 4) rfl ?_); refine be (cs := #[.int .i64 a0_0, .int .i64 a0_1, .slice A0_2 l0_2.length c0_2]) (t := 46) ?_; intro gb101 hg w5 hbox hb; have BK0 := Aside0.mk hbox; have GE101 := gz w hg (uB0 HB); replace HB := Aside0.mk (below_step (uB0 HB) hb); clear hb hbox hg; obtain ⟨hz0, hz1, hz2, hf0, hf1, hf2⟩ := bc3 BK0) | (go_at_call 30; (with_reducible refine (laws_szPlan.calls a0_0 a0_1 _ _ l0_2 1048576 _ _ ?side1 ?side2 ASZ.out).mono ?_); (case side1 => exact uC HR0_2 HB); (case side2 => exact HC0_2.out); rintro e w6 ⟨rfl, hb⟩; replace BK0 := bb BK0 hb; replace HB := Aside0.mk (below_step (uB1 HB GE101.out) hb); clear hb hz0 hz1 hz2 hf0 hf1 hf2; obtain ⟨hz0, hz1, hz2, hf0, hf1, hf2⟩ := bc3 BK0))
    go_ret
    exact ⟨rfl, uB1 HB GE101.out⟩
  rw [if_pos hL] at ASZ
  have hneg := DL (show ¬ (1048576 - (l0_2.length : Int)) < 0 by omega)
  obtain ⟨Ap, hAp⟩ : ∃ Ap, Ap = l0_2.map toA := ⟨_, rfl⟩
  have hAl : Ap.length = l0_2.length := by rw [hAp, List.length_map]
  obtain ⟨r, hr⟩ : ∃ r, r = roundAll a0_0 a0_1 Ap a1 a2 a3 := ⟨_, rfl⟩
  have hrl : r.length ≤ 7 := by rw [hr]; exact roundAll_len _ _ _ _ _ _
  have hrr : ∀ x ∈ r, x.length ≤ 8 := by rw [hr]; exact roundAll_row _ _ _ _ _ _
  have hsum : msum r ≤ 56 := by
    have key : ∀ l : List (List Int), (∀ x ∈ l, x.length ≤ 8) → msum l ≤ 8 * l.length := by
      intro l
      induction l with
      | nil => intro _; exact Nat.le_refl _
      | cons x l ih =>
        intro h
        have h1 := h x (List.mem_cons_self ..)
        have h2 := ih (fun y hy => h y (List.mem_cons_of_mem _ hy))
        simp only [msum, List.map_cons, List.sum_cons, List.length_cons] at h2 ⊢
        omega
    have := key r hrr
    omega
  have hN := toPlan_map a0_0 a0_1 l0_2 hL
  rw [← hAp] at hN
  obtain ⟨k1, e1⟩ := hN.get
  obtain ⟨k2, e2⟩ := (spec_RoundAll_ev a0_0 a0_1 Ap a1 a2 a3 (by omega)).get
  obtain ⟨k3, e3⟩ := (impl_RoundAll_ev a0_0 a0_1 Ap a1 a2 a3 (by omega)).get
  rw [← hr] at e2 e3
  obtain ⟨k4, e4⟩ := (eqIntSS_self r (by omega) (fun x hx => by have := hrr x hx; omega)).get
  obtain ⟨k5, e5⟩ := (eqPlan_self a0_0 a0_1 Ap (by omega)).get
  obtain ⟨k6, e6⟩ := (markPlan_marks a0_0 a0_1 Ap 1 (by omega) (by omega)).get
  obtain ⟨k7, e7⟩ := (heldIntSS_marks 1 r (by omega) (by omega) (by omega)).get
  have hs1 : Aside0 (r.length ≤ 1048576) := ⟨by omega⟩
  have hs2 : Aside0 (1 + (msum r : Int) ≤ 4611686018427387904) := ⟨by omega⟩
  have E1 := Aside0.mk e1
  have E2 := Aside0.mk e2
  have E3 := Aside0.mk e3
  have E4 := Aside0.mk e4
  have E5 := Aside0.mk e5
  have E6 := Aside0.mk e6
  have hd1 := DL (show ¬ (1 + 5 * (Ap.length : Int)) < 0 by omega)
  have hd2 := DL (show ¬ (1 + (msum r : Int)) < 0 by omega)
  have HH : ∀ (A : Option Addr) (c : Nat) (W : World), Kd.C kSS W A (marksSS 1 r).length (marksSS 1 r) → r.length ≤ c → Calls Try.prog 39 #[.slice A r.length c, .int .i64 1] W fun e w' => e = .returned (.int .i64 (1 + (msum r : Int))) ∧ Drawn0 W w' := fun A c W h1 h2 => by
    have := laws_heldIntSS.calls k7 A c (marksSS 1 r) 1 _ W h1 (by rw [marksSS_length]; exact h2) e7
    rw [marksSS_length] at this
    exact this
  have HHE := Aside0.mk HH
  clear e1 e2 e3 e4 e5 e6 e7 hN hAl hrl hrr hsum hAp hr HH
  go_enter Try.func10, Try.ntmps10
  go_upto_region 6 with (first | ((with_reducible refine gate_dst (N := 4) rfl ?_); refine be (cs := #[.int .i64 a0_0, .int .i64 a0_1, .slice A0_2 l0_2.length c0_2]) (t := 46) ?_; intro gb101 hg w5 hbox hb; have BK0 := Aside0.mk hbox; have GE101 := gz w hg (uB0 HB); replace HB := Aside0.mk (below_step (uB0 HB) hb); clear hb hbox hg; obtain ⟨hz0, hz1, hz2, hf0, hf1, hf2⟩ := bc3 BK0) | (go_at_call 30; (with_reducible refine (laws_szPlan.calls a0_0 a0_1 _ _ l0_2 1048576 _ _ ?side1 ?side2 ASZ.out).mono ?_); (case side1 => exact uC HR0_2 HB); (case side2 => exact HC0_2.out); rintro e w6 ⟨rfl, hb⟩; replace BK0 := bb BK0 hb; replace HB := Aside0.mk (below_step (uB1 HB GE101.out) hb); clear hb hz0 hz1 hz2 hf0 hf1 hf2; obtain ⟨hz0, hz1, hz2, hf0, hf1, hf2⟩ := bc3 BK0) | (go_at_call 31; (with_reducible refine (laws_toPlan.calls k1 a0_0 a0_1 _ _ l0_2 a0_0 a0_1 Ap _ ?side1 ?side2 E1.out).mono ?_); (case side1 => exact uC HR0_2 HB); (case side2 => exact HC0_2.out); rintro e w7 ⟨v1, rfl, ho0, hb⟩; obtain ⟨Ao1, co1, eo1⟩ := Kd.R_slice ho0; subst eo1; have HO1 := Aside0.mk (Kd.R_reads' ho0).2; replace BK0 := bb BK0 hb; replace HB := Aside0.mk (below_step (uB1 HB GE101.out) hb); clear hb ho0 hz0 hz1 hz2 hf0 hf1 hf2; obtain ⟨hz0, hz1, hz2, hf0, hf1, hf2⟩ := bc3 BK0) | (go_at_call 26; (with_reducible refine (spec_RoundAll.calls k2 a0_0 a0_1 _ _ Ap a1 a2 a3 r _ ?side1 ?side2 E2.out).mono ?_); (case side1 => exact uD HO1.out.2); (case side2 => exact HO1.out.1); rintro e w8 ⟨v2, rfl, ho0, hb⟩; obtain ⟨Aw, cw, eo1⟩ := Kd.N_slice ho0; subst eo1; have HWC := Aside0.mk (Kd.N_reads' ho0).2; replace BK0 := bb BK0 hb; replace HB := Aside0.mk (below_step (uB1 HB GE101.out) hb); clear hb ho0 HO1 hz0 hz1 hz2 hf0 hf1 hf2; obtain ⟨hz0, hz1, hz2, hf0, hf1, hf2⟩ := bc3 BK0))
  have HWL := Aside0.mk HWC.out.1
  replace HWC := Aside0.mk HWC.out.2
  have HB1 := Aside0.mk (Below.refl w8.heap.size w8)
  have HLT : Aside0 (gb101 < w8.heap.size) := ⟨blk_lt BK0.out⟩
  go_upto_region 7 with (first | (go_at_call 31; (with_reducible refine (laws_toPlan.calls k1 a0_0 a0_1 _ _ l0_2 a0_0 a0_1 Ap _ ?side1 ?side2 E1.out).mono ?_); (case side1 => exact uC HR0_2 HB); (case side2 => exact HC0_2.out); rintro e w9 ⟨v3, rfl, ho0, hb⟩; obtain ⟨Ao3, co3, eo1⟩ := Kd.R_slice ho0; subst eo1; have HX : Aside0 (Kd.R k32 32 w9 w8.heap.size (fun k => w8.heap.size ≤ k ∧ k < w9.heap.size) (.slice Ao3 Ap.length co3) Ap) := ⟨Kd.R_mono (Kd.R_bound ho0) (fun k hk => ⟨hk.2.1, hk.2.2.1⟩)⟩; have HX09 : Aside0 (w8.heap.size ≤ w9.heap.size) := ⟨hb.size⟩; replace BK0 := bb BK0 hb; replace HB1 := Aside0.mk (below_step HB1.out hb); clear hb ho0 hz0 hz1 hz2 hf0 hf1 hf2) | ((with_reducible refine gate_dst (N := 11) rfl ?_); refine be (cs := #[.int .i64 0, .int .i64 0, .slice none 0 0]) (t := 25) ?_; intro gb102 hg w10 hbox hb; have BK2 := Aside0.mk hbox; have GE102 : Aside0 (w9.heap.size ≤ gb102) := ⟨Nat.le_of_eq hg.symm⟩; have SZ2 : Aside0 (w9.heap.size ≤ w10.heap.size) := ⟨hb.size⟩; have NB101_102 := gl hg BK0; replace BK0 := bb BK0 hb; replace HX := Aside0.mk (Kd.R_below (ur HX) hb); replace HB1 := Aside0.mk (below_step HB1.out hb); clear hb hbox hg; obtain ⟨hz0, hz1, hz2, hf0, hf1, hf2⟩ := bc3 BK2))
  have n1_ : Aside0 ((((w10.setCell ⟨gb102, 0, none⟩ (.int .i64 a0_0)).setCell ⟨gb102, 1, none⟩ (.int .i64 a0_1)).setCell ⟨gb102, 2, none⟩ (.slice Ao3 Ap.length co3)).heap[gb101]? = some (.cells #[.int .i64 a0_0, .int .i64 a0_1, .slice A0_2 l0_2.length c0_2] 46 (0, 0))) := ⟨fa3 (ub BK0) NB101_102⟩
  have n2_ : Aside0 ((((w10.setCell ⟨gb102, 0, none⟩ (.int .i64 a0_0)).setCell ⟨gb102, 1, none⟩ (.int .i64 a0_1)).setCell ⟨gb102, 2, none⟩ (.slice Ao3 Ap.length co3)).heap[gb102]? = some (.cells #[.int .i64 a0_0, .int .i64 a0_1, .slice Ao3 Ap.length co3] 25 (0, 0))) := ⟨pu3 (.int .i64 0) (.int .i64 0) (.slice none 0 0) BK2.out⟩
  have n3_ : Aside0 (Kd.R k32 32 (((w10.setCell ⟨gb102, 0, none⟩ (.int .i64 a0_0)).setCell ⟨gb102, 1, none⟩ (.int .i64 a0_1)).setCell ⟨gb102, 2, none⟩ (.slice Ao3 Ap.length co3)) w8.heap.size (fun k => w8.heap.size ≤ k ∧ k < w9.heap.size) (.slice Ao3 Ap.length co3) Ap) := ⟨Kd.R_mono (rf3 HX BK2) (fun _ hk => hk.1)⟩
  have HSZ0 : Aside0 (w8.heap.size ≤ gb102) := ⟨by have h1 := GE102.out; have h2 := HX09.out; omega⟩
  have n4_ : Aside0 (Below w8.heap.size w8 (((w10.setCell ⟨gb102, 0, none⟩ (.int .i64 a0_0)).setCell ⟨gb102, 1, none⟩ (.int .i64 a0_1)).setCell ⟨gb102, 2, none⟩ (.slice Ao3 Ap.length co3))) := ⟨uB1 HB1 HSZ0.out⟩
  have HSZ : Aside0 (w8.heap.size ≤ (((w10.setCell ⟨gb102, 0, none⟩ (.int .i64 a0_0)).setCell ⟨gb102, 1, none⟩ (.int .i64 a0_1)).setCell ⟨gb102, 2, none⟩ (.slice Ao3 Ap.length co3)).heap.size ∧ w9.heap.size ≤ (((w10.setCell ⟨gb102, 0, none⟩ (.int .i64 a0_0)).setCell ⟨gb102, 1, none⟩ (.int .i64 a0_1)).setCell ⟨gb102, 2, none⟩ (.slice Ao3 Ap.length co3)).heap.size) := ⟨n4_.out.size, by have := SZ2.out; simpa using this⟩
  clear BK0 BK2 HX HB1 SZ2 hz0 hz1 hz2 hf0 hf1 hf2
  generalize (((w10.setCell ⟨gb102, 0, none⟩ (.int .i64 a0_0)).setCell ⟨gb102, 1, none⟩ (.int .i64 a0_1)).setCell ⟨gb102, 2, none⟩ (.slice Ao3 Ap.length co3)) = w11 at n1_ n2_ n3_ n4_ HSZ ⊢
  have BK0 := n1_
  have BK2 := n2_
  have HX := n3_
  have HB1 := n4_
  clear n1_ n2_ n3_ n4_
  obtain ⟨hz0, hz1, hz2, hf0, hf1, hf2⟩ := bc3 BK2
  go_upto_region 8 with (go_at_call 24; (with_reducible refine (impl_RoundAll.calls k3 a0_0 a0_1 _ _ Ap a1 a2 a3 r _ ?side1 ?side2 E3.out).mono ?_); (case side1 => exact uD (Kd.R_reads' HX.out).2.2); (case side2 => exact (Kd.R_reads' HX.out).2.1); rintro e w12 ⟨v4, rfl, ho0, hb⟩; obtain ⟨Ao4, co4, eo1⟩ := Kd.S_slice ho0; subst eo1; have HG : Aside0 (Kd.S kSS 28 w12 w8.heap.size (fun k => w11.heap.size ≤ k) (.slice Ao4 r.length co4) r) := ⟨Kd.S_lower (Kd.S_mono (Kd.S_bound ho0) (fun k hk => hk.2.1)) HSZ.out.1⟩; replace BK0 := bb BK0 hb; replace BK2 := bb BK2 hb; replace HX := Aside0.mk (Kd.R_below HX.out hb); replace HB1 := Aside0.mk (below_step HB1.out hb); clear hb ho0 hz0 hz1 hz2 hf0 hf1 hf2)
  go_upto_region 10 with (go_at_call 37; (with_reducible refine (laws_eqIntSS.calls k4 Ao4 co4 r Aw cw r true _ ?side1 ?side2 ?side3 ?side4 E4.out).mono ?_); (case side1 => exact uD (Kd.S_reads' HG.out).2.2); (case side2 => exact (Kd.S_reads' HG.out).2.1); (case side3 => exact uC HWC HB1); (case side4 => exact HWL.out); rintro e w' ⟨rfl, ⟨nd, rfl⟩⟩; replace HG := Aside0.mk (Kd.S_drewN HG.out nd); replace HX := Aside0.mk (Kd.R_drewN HX.out nd); replace BK0 := Aside0.mk (blk_drewN BK0.out nd); replace BK2 := Aside0.mk (blk_drewN BK2.out nd); replace HB1 := Aside0.mk (pw_below_drewN HB1.out nd); generalize w12.drewN nd = w13 at HG HX BK0 BK2 HB1 ⊢)
  replace HG := Aside0.mk (Kd.S_drew HG.out)
  replace HX := Aside0.mk (Kd.R_drew HX.out)
  replace BK0 := Aside0.mk (blk_drew BK0.out)
  replace BK2 := Aside0.mk (blk_drew BK2.out)
  replace HB1 := Aside0.mk (below_drew1 HB1.out)
  refine start_ (n := 5) (S := fun w' => w'.cell? ⟨gb102, 0, none⟩ = some (.int .i64 a0_0) ∧ w'.cell? ⟨gb102, 1, none⟩ = some (.int .i64 a0_1) ∧ w'.cell? ⟨gb102, 2, none⟩ = some (.slice Ao3 Ap.length co3) ∧ w'.cell? ⟨gb101, 0, none⟩ = some (.int .i64 a0_0) ∧ w'.cell? ⟨gb101, 1, none⟩ = some (.int .i64 a0_1) ∧ w'.cell? ⟨gb101, 2, none⟩ = some (.slice A0_2 l0_2.length c0_2)) (ds := []) (zt 5 0) (by kernel_rfl) rfl (by kernel_rfl) (b33_ BK2 BK0) (fun hHeld => ?_)
  refine with_tabW exRoundAll_tab exRoundAll_bits (fun HT_ HW_ => ?_)
  generalize w13.drew = w14 at HG HX BK0 BK2 HB1 hHeld ⊢
  refine qt HT_ HW_ hHeld 0 ?_
  refine qt HT_ HW_ hHeld 1 ?_
  refine qo HT_ 2 (fun K hK => ?_)
  refine goes_ Try.func31 (by kernel_rfl) rfl #[.agg #[.int .i64 a0_0, .int .i64 a0_1, .slice A0_2 l0_2.length c0_2]] (by rfl) rfl rfl ul ?_
  refine (laws_toPlan.calls k1 a0_0 a0_1 _ _ l0_2 a0_0 a0_1 Ap _ (Kd.C_below HR0_2.out (below_step HB.out HB1.out)) HC0_2.out E1.out).mono ?_
  rintro e w15 ⟨v5, rfl, ho0, hb⟩
  refine ⟨_, rfl, ?_⟩
  obtain ⟨Ao5, co5, eo1⟩ := Kd.R_slice ho0
  subst eo1
  have HO5 := Aside0.mk (Kd.R_reads' ho0).2
  replace HG := Aside0.mk (Kd.S_below HG.out hb)
  replace HX := Aside0.mk (Kd.R_below HX.out hb)
  replace BK0 := bb BK0 hb
  replace BK2 := bb BK2 hb
  replace HB1 := Aside0.mk (below_step HB1.out hb)
  clear hb ho0
  refine hK.out _ _ (b33_ BK2 BK0) (fun hHeld => ?_)
  clear hK K
  refine nz ?_
  refine qo HT_ 3 (fun K hK => ?_)
  refine goes_ Try.func33 (by kernel_rfl) rfl #[.agg #[.int .i64 a0_0, .int .i64 a0_1, .slice Ao3 Ap.length co3], .agg #[.int .i64 a0_0, .int .i64 a0_1, .slice Ao5 Ap.length co5]] (by rfl) rfl rfl ul ?_
  refine (laws_eqPlan.calls k5 a0_0 a0_1 _ _ Ap a0_0 a0_1 _ _ Ap true _ (Kd.R_reads' HX.out).2.2 (Kd.R_reads' HX.out).2.1 HO5.out.2 HO5.out.1 E5.out).mono ?_
  rintro e w16 ⟨rfl, hb⟩
  refine ⟨_, rfl, ?_⟩
  replace HG := Aside0.mk (Kd.S_below HG.out hb)
  replace HX := Aside0.mk (Kd.R_below HX.out hb)
  replace BK0 := bb BK0 hb
  replace BK2 := bb BK2 hb
  replace HB1 := Aside0.mk (below_step HB1.out hb)
  clear hb HO5
  refine hK.out _ _ (b33_ BK2 BK0) (fun hHeld => ?_)
  clear hK K
  refine nz ?_
  refine qz HT_ 4 ?_
  refine done_ (done_of HT_.out (by kernel_rfl)) ?_
  clear HT_ HW_ hHeld
  obtain ⟨hz0, hz1, hz2, hf0, hf1, hf2⟩ := bc3 BK2
  have HGL : Aside0 (r.length ≤ co4) := ⟨(Kd.S_reads' HG.out).2.1⟩
  go_upto_region 14 with (go_at_call 34; refine (laws_markPlan.calls k6 a0_0 a0_1 (fun k => w8.heap.size ≤ k ∧ k < w9.heap.size) (.slice Ao3 Ap.length co3) Ap 1 _ _ w8 _ HB1.out HX.out E6.out).mono ?_; rintro e w17 ⟨rfl, hy, hb, hk⟩; replace BK0 := Aside0.mk (blk_kept BK0.out hk (fun hs_ => by have h1 := HLT.out; have h2 := hs_.1; omega)); replace HG := Aside0.mk (Kd.S_step HG.out (fun k hok hlt => hk.2 k hlt (fun hs_ => by have h1 := HSZ.out; have h2 := hs_.2; omega))); replace HB1 := Aside0.mk hb; clear hy hb hk HX BK2 hz0 hz1 hz2 hf0 hf1 hf2)
  go_upto_region 17 with (go_at_call 37; (with_reducible refine (laws_eqIntSS.calls k4 Ao4 co4 r Aw cw r true _ ?side1 ?side2 ?side3 ?side4 E4.out).mono ?_); (case side1 => exact uD (Kd.S_reads' HG.out).2.2); (case side2 => exact (Kd.S_reads' HG.out).2.1); (case side3 => exact uC HWC HB1); (case side4 => exact HWL.out); rintro e w' ⟨rfl, ⟨nd, rfl⟩⟩; replace HG := Aside0.mk (Kd.S_drewN HG.out nd); replace BK0 := Aside0.mk (blk_drewN BK0.out nd); replace HB1 := Aside0.mk (pw_below_drewN HB1.out nd); generalize w17.drewN nd = w19 at HG BK0 HB1 ⊢)
  go_upto_region 18 with (go_at_call 38; refine (laws_markIntSS_marks (.slice Ao4 r.length co4) r 1 w8 _ (fun k => w11.heap.size ≤ k) HB1.out HG.out (by decide) hs2.out hs1.out).mono ?_; rintro e w20 ⟨rfl, hs, hb, hk⟩; replace BK0 := Aside0.mk (blk_kept BK0.out hk (fun hs_ => by have h1 := HLT.out; have h2 := HSZ.out; omega)); replace HG := Aside0.mk hs; replace HB1 := Aside0.mk hb; clear hs hb hk)
  go_upto_region 24 with (go_at_call 39; refine (HHE.out Ao4 co4 _ ?side1 ?side2).mono ?_; (case side1 => exact uD (Kd.S_reads' HG.out).2.2); (case side2 => exact HGL.out); rintro e w' ⟨rfl, ⟨nd, rfl⟩⟩; replace HG := Aside0.mk (Kd.S_drewN HG.out nd); replace BK0 := Aside0.mk (blk_drewN BK0.out nd); replace HB1 := Aside0.mk (pw_below_drewN HB1.out nd); generalize w20.drewN nd = w21 at HG BK0 HB1 ⊢)
  obtain ⟨hz0, hz1, hz2, hf0, hf1, hf2⟩ := bc3 BK0
  go_upto_region 25 with (first | (go_at_call 31; (with_reducible refine (laws_toPlan.calls k1 a0_0 a0_1 _ _ l0_2 a0_0 a0_1 Ap _ ?side1 ?side2 E1.out).mono ?_); (case side1 => exact Kd.C_below HR0_2.out (below_step HB.out HB1.out)); (case side2 => exact HC0_2.out); rintro e w22 ⟨v6, rfl, ho0, hb⟩; obtain ⟨Ao6, co6, eo1⟩ := Kd.R_slice ho0; subst eo1; have HO6 := Aside0.mk (Kd.R_reads' ho0).2; replace HG := Aside0.mk (Kd.S_below HG.out hb); replace BK0 := bb BK0 hb; replace HB1 := Aside0.mk (below_step HB1.out hb); clear hb ho0) | (go_at_call 24; (with_reducible refine (impl_RoundAll.calls k3 a0_0 a0_1 _ _ Ap a1 a2 a3 r _ ?side1 ?side2 E3.out).mono ?_); (case side1 => exact uD HO6.out.2); (case side2 => exact HO6.out.1); rintro e w23 ⟨v7, rfl, ho0, hb⟩; obtain ⟨Ao7, co7, eo1⟩ := Kd.S_slice ho0; subst eo1; have HH7 := Aside0.mk (Kd.S_reads' ho0).2; replace HG := Aside0.mk (Kd.S_below HG.out hb); replace BK0 := bb BK0 hb; replace HB1 := Aside0.mk (below_step HB1.out hb); clear hb ho0 HO6))
  clear hz0 hz1 hz2 hf0 hf1 hf2
  go_upto_region 28 with (go_at_call 37; (with_reducible refine (laws_eqIntSS.calls k4 Ao7 co7 r Aw cw r true _ ?side1 ?side2 ?side3 ?side4 E4.out).mono ?_); (case side1 => exact uD HH7.out.2); (case side2 => exact HH7.out.1); (case side3 => exact uC HWC HB1); (case side4 => exact HWL.out); rintro e w' ⟨rfl, ⟨nd, rfl⟩⟩; replace HG := Aside0.mk (Kd.S_drewN HG.out nd); replace BK0 := Aside0.mk (blk_drewN BK0.out nd); replace HB1 := Aside0.mk (pw_below_drewN HB1.out nd); generalize w23.drewN nd = w24 at HG BK0 HB1 ⊢)
  go_wp2_with (first | (go_at_call 39; refine (HHE.out Ao4 co4 _ ?side1 ?side2).mono ?_; (case side1 => exact uD (Kd.S_reads' HG.out).2.2); (case side2 => exact HGL.out); rintro e w' ⟨rfl, ⟨nd, rfl⟩⟩; replace HG := Aside0.mk (Kd.S_drewN HG.out nd); replace BK0 := Aside0.mk (blk_drewN BK0.out nd); replace HB1 := Aside0.mk (pw_below_drewN HB1.out nd); generalize w24.drewN nd = w25 at HG BK0 HB1 ⊢))
  go_ret
  exact ⟨rfl, below_step HB.out HB1.out⟩
end Go.Proofs.Ytcklifkbodmoaaa.P
