/- The walk of the law FnExactRankArc, by hand: what was handed in and what came back is written over. -/
import Derived.Test.YtdlaaccnaokdnaaHRkW
import Derived.Test.YtdlaaccnaokdnaaMRankAr
import Derived.Test.YtdlaaccnaokdnaaMRankE
import Derived.Test.YtdlaaccnaokdnaaMRankH
set_option linter.unusedVariables false
set_option linter.unusedSimpArgs false
namespace Go.Proofs.Ytdlaaccnaokdnaa.P
open Go.RowKit Go.Proofs.Ytdlaaccnaokdnaa.M Go.Proofs.YtdlaaccnaokdnaaV.PrintWords Go.Proofs.YtdlaaccnaokdnaaV.PrintLast Go.Proofs.YtdlaaccnaokdnaaV.PrintMore
def arc8_T : Bool × List (List Nat × List Nat) := (true, [([], []), ([0], [0]), ([], []), ([2, 1], [2]), ([], []), ([], []), ([1, 3, 4, 5, 3], [1, 3, 4, 5]), ([6, 6, 0, 1, 2, 3, 4, 5, 6], [6])])
def arc8_B : List Nat := [0, 1, 0, 7, 0, 0, 63, 127]
theorem arc8_tab : rtab .any (opsOf Try.f4 8) = arc8_T := by kernel_rfl
theorem arc8_bits : waitsOk arc8_T.2 arc8_B = true := by kernel_rfl
def arc14_T : Bool × List (List Nat × List Nat) := (true, [([], []), ([], []), ([1], [1]), ([0, 2, 2], [0, 2]), ([3], [3])])
def arc14_B : List Nat := [0, 0, 2, 7, 15]
theorem arc14_tab : rtab .any (opsOf Try.f4 14) = arc14_T := by kernel_rfl
theorem arc14_bits : waitsOk arc14_T.2 arc14_B = true := by kernel_rfl
def arc16_T : Bool × List (List Nat × List Nat) := (true, [([], []), ([], []), ([1], [1]), ([0, 2, 2], [0, 2]), ([3], [3])])
def arc16_B : List Nat := [0, 0, 2, 7, 15]
theorem arc16_tab : rtab .any (opsOf Try.f4 16) = arc16_T := by kernel_rfl
theorem arc16_bits : waitsOk arc16_T.2 arc16_B = true := by kernel_rfl
def arc31_T : Bool × List (List Nat × List Nat) := (true, [([], []), ([0], [0]), ([], []), ([2, 1], [2]), ([], []), ([], []), ([1, 3, 4, 5, 3], [1, 3, 4, 5]), ([6, 6, 0, 1, 2, 3, 4, 5, 6], [6])])
def arc31_B : List Nat := [0, 1, 0, 7, 0, 0, 63, 127]
theorem arc31_tab : rtab .any (opsOf Try.f4 31) = arc31_T := by kernel_rfl
theorem arc31_bits : waitsOk arc31_T.2 arc31_B = true := by kernel_rfl
set_option maxHeartbeats 16000000 in
set_option maxRecDepth 100000 in
theorem laws_FnExactRankArc.calls (a0_0 : Int) (A0_1 : Option Addr) (c0_1 : Nat) (l0_1 : List S103) (A1_0 : Option Addr) (c1_0 : Nat) (l1_0 : List Int) (A1_1 : Option Addr) (c1_1 : Nat) (l1_1 : List (List Int)) (A1_2 : Option Addr) (c1_2 : Nat) (l1_2 : List (List Int)) (a2 a3 : Int) (w : World) (hr0_1 : Kd.C k103 w A0_1 l0_1.length l0_1) (hc0_1 : l0_1.length ≤ c0_1) (hr1_0 : Kd.C (Kd.int .i64) w A1_0 l1_0.length l1_0) (hc1_0 : l1_0.length ≤ c1_0) (hr1_1 : Kd.C (Kd.slice 3 (Kd.int .i64)) w A1_1 l1_1.length l1_1) (hc1_1 : l1_1.length ≤ c1_1) (hr1_2 : Kd.C (Kd.slice 3 (Kd.int .i64)) w A1_2 l1_2.length l1_2) (hc1_2 : l1_2.length ≤ c1_2) (hm : l0_1.length ≤ 9223372036854775807) :
    Calls Try.prog 4 #[.agg #[.int .i64 a0_0, .slice A0_1 l0_1.length c0_1], .agg #[.slice A1_0 l1_0.length c1_0, .slice A1_1 l1_1.length c1_1, .slice A1_2 l1_2.length c1_2], .int .i64 a2, .int .i64 a3] w fun e w' => e = .returned (.bool true) ∧ Below w.heap.size w w' := by
  have hu24 := Try.underlying24
  have hu28 := Try.underlying28
  have hu35 := Try.underlying35
  have hu37 := Try.underlying37
  have HR0 := Aside0.mk hr0_1
  have HC0 := Aside0.mk hc0_1
  have HR1_0 := Aside0.mk hr1_0
  have HC1_0 := Aside0.mk hc1_0
  have HR1_1 := Aside0.mk hr1_1
  have HC1_1 := Aside0.mk hc1_1
  have HR1_2 := Aside0.mk hr1_2
  have HC1_2 := Aside0.mk hc1_2
  have HQ := Aside0.mk (XQ.start w)
  have ASZ := Aside0.mk (szNet_val a0_0 l0_1 hm)
  by_cases hL : l0_1.length ≤ 1048576
  rotate_left
  · rw [if_neg hL] at ASZ
    clear hr0_1 hc0_1 hr1_0 hc1_0 hr1_1 hc1_1 hr1_2 hc1_2
    go_enter Try.func4, Try.ntmps4
    go_wp2_with (first | ((with_reducible refine gate_dst (N := 4) rfl ?_); refine be (cs := #[.int .i64 a0_0, .slice A0_1 l0_1.length c0_1]) (t := 24) ?_; intro g4 hg w1 hbox hb; replace HQ := Aside0.mk (HQ.out.addB hg hbox hb); clear hb hbox hg) | ((with_reducible refine gate_dst (N := 5) rfl ?_); refine be (cs := #[.slice A1_0 l1_0.length c1_0, .slice A1_1 l1_1.length c1_1, .slice A1_2 l1_2.length c1_2]) (t := 28) ?_; intro g5 hg w2 hbox hb; replace HQ := Aside0.mk (HQ.out.addB hg hbox hb); clear hb hbox hg; obtain ⟨hz4a, hz4b, hf4a, hf4b⟩ := bc2 (HQ.out.bx (List.Mem.tail _ (List.Mem.head _))); obtain ⟨hz5a, hz5b, hz5c, hf5a, hf5b, hf5c⟩ := bc3 (HQ.out.bx (List.Mem.head _))) | (go_at_call 14; refine (laws_szNet.calls a0_0 _ _ l0_1 1048576 _ _ (Kd.C_below HR0.out HQ.out.hB) HC0.out ASZ.out).mono ?_; rintro e w3 ⟨rfl, hb⟩; replace HQ := Aside0.mk (HQ.out.below hb); clear hb; clear hz4a hz4b hf4a hf4b hz5a hz5b hz5c hf5a hf5b hf5c; obtain ⟨hz4a, hz4b, hf4a, hf4b⟩ := bc2 (HQ.out.bx (List.Mem.tail _ (List.Mem.head _))); obtain ⟨hz5a, hz5b, hz5c, hf5a, hf5b, hf5c⟩ := bc3 (HQ.out.bx (List.Mem.head _))))
    go_ret
    exact ⟨rfl, HQ.out.hB⟩
  rw [if_pos hL] at ASZ
  have hneg := DL (show ¬ (1048576 - (l0_1.length : Int)) < 0 by omega)
  obtain ⟨t, ht, hle, hfew⟩ := szRank_ev l1_0 l1_1 l1_2 (1048576 - l0_1.length) (by omega) hr1_0.2.1 hr1_1.2.1 (rows_len hr1_1) hr1_2.2.1 (rows_len hr1_2)
  obtain ⟨ks, es⟩ := ht.get
  have ES := Aside0.mk es
  clear es ht
  clear hr0_1 hc0_1 hr1_0 hc1_0 hr1_1 hc1_1 hr1_2 hc1_2
  by_cases ht0 : t < 0
  · have hd := dl ht0
    clear ht0 hfew hle hL hm
    go_enter Try.func4, Try.ntmps4
    go_wp2_with (first | ((with_reducible refine gate_dst (N := 4) rfl ?_); refine be (cs := #[.int .i64 a0_0, .slice A0_1 l0_1.length c0_1]) (t := 24) ?_; intro g4 hg w1 hbox hb; replace HQ := Aside0.mk (HQ.out.addB hg hbox hb); clear hb hbox hg) | ((with_reducible refine gate_dst (N := 5) rfl ?_); refine be (cs := #[.slice A1_0 l1_0.length c1_0, .slice A1_1 l1_1.length c1_1, .slice A1_2 l1_2.length c1_2]) (t := 28) ?_; intro g5 hg w2 hbox hb; replace HQ := Aside0.mk (HQ.out.addB hg hbox hb); clear hb hbox hg; obtain ⟨hz4a, hz4b, hf4a, hf4b⟩ := bc2 (HQ.out.bx (List.Mem.tail _ (List.Mem.head _))); obtain ⟨hz5a, hz5b, hz5c, hf5a, hf5b, hf5c⟩ := bc3 (HQ.out.bx (List.Mem.head _))) | (go_at_call 14; refine (laws_szNet.calls a0_0 _ _ l0_1 1048576 _ _ (Kd.C_below HR0.out HQ.out.hB) HC0.out ASZ.out).mono ?_; rintro e w3 ⟨rfl, hb⟩; replace HQ := Aside0.mk (HQ.out.below hb); clear hb; clear hz4a hz4b hf4a hf4b hz5a hz5b hz5c hf5a hf5b hf5c; obtain ⟨hz4a, hz4b, hf4a, hf4b⟩ := bc2 (HQ.out.bx (List.Mem.tail _ (List.Mem.head _))); obtain ⟨hz5a, hz5b, hz5c, hf5a, hf5b, hf5c⟩ := bc3 (HQ.out.bx (List.Mem.head _))) | (go_at_call 15; refine (laws_szRank.calls ks _ _ l1_0 _ _ l1_1 _ _ l1_2 _ t _ (Kd.C_below HR1_0.out HQ.out.hB) HC1_0.out (Kd.C_below HR1_1.out HQ.out.hB) HC1_1.out (Kd.C_below HR1_2.out HQ.out.hB) HC1_2.out ES.out).mono ?_; rintro e w4 ⟨rfl, hb⟩; replace HQ := Aside0.mk (HQ.out.below hb); clear hb; clear hz4a hz4b hf4a hf4b hz5a hz5b hz5c hf5a hf5b hf5c))
    go_ret
    exact ⟨rfl, HQ.out.hB⟩
  have hneg2 := DL ht0
  obtain ⟨f0, f1, f2⟩ := hfew (by omega)
  clear ht0 hfew hle
  obtain ⟨Ap, hAp⟩ : ∃ Ap, Ap = l0_1.map toA := ⟨_, rfl⟩
  have hAl : Ap.length = l0_1.length := by rw [hAp, List.length_map]
  have hN := toNet_map a0_0 l0_1 hL
  rw [← hAp] at hN
  have g1 := f1.1
  have g2 := f2.1
  have m1 := few_sum f1
  have m2 := few_sum f2
  obtain ⟨k1, e1⟩ := hN.get
  obtain ⟨ka, ea⟩ := toIntS_self l1_0 f0
  obtain ⟨kb, eb⟩ := toIntSS_self f1
  obtain ⟨kc, ec⟩ := toIntSS_self f2
  obtain ⟨k3, e3⟩ := (toRank_self f0 f1 f2).get
  have T0 := Aside0.mk (ea (ka + kb + kc) (by omega))
  have T1 := Aside0.mk (eb (ka + kb + kc) (by omega))
  have T2 := Aside0.mk (ec (ka + kb + kc) (by omega))
  obtain ⟨k7, e7⟩ := (eqNet_self a0_0 Ap (by omega)).get
  obtain ⟨k9, e9⟩ := (eqRank_self f0 f1 f2).get
  obtain ⟨k10, e10⟩ := (markNet_marks a0_0 Ap 1 (by omega) (by omega)).get
  have hS := specRankArc_ev a0_0 Ap l1_0 l1_1 l1_2 a2 a3 (by omega) f0
  have hI := implRankArc_ev a0_0 Ap l1_0 l1_1 l1_2 a2 a3 f0 f1 f2
  have hfw := rkArc_few a0_0 Ap l1_0 l1_1 l1_2 a2 a3
  obtain ⟨r, hr⟩ : ∃ r, rkArc a0_0 Ap l1_0 l1_1 l1_2 a2 a3 = r := ⟨_, rfl⟩
  rw [hr] at hS hI hfw
  obtain ⟨k4, e4⟩ := hS.get
  obtain ⟨k5, e5⟩ := hI.get
  obtain ⟨k6, e6⟩ := (eqIntS_self r (by omega)).get
  obtain ⟨k11, e11⟩ := (markIntS_marks r 1 (by omega) (by omega)).get
  obtain ⟨k13, e13⟩ := (heldIntS_marks 1 r.length (by omega) (by omega)).get
  have E1 := Aside0.mk e1
  have E3 := Aside0.mk e3
  have E4 := Aside0.mk e4
  have E5 := Aside0.mk e5
  have E6 := Aside0.mk e6
  have E7 := Aside0.mk e7
  have E9 := Aside0.mk e9
  have E10 := Aside0.mk e10
  have E11 := Aside0.mk e11
  have LS := Aside0.mk (show (1 + 5 * (Ap.length : Int)) + l1_0.length + msum l1_1 + msum l1_2 ≤ 4611686018427387904 by omega)
  have L0 := Aside0.mk (show 0 ≤ 1 + 5 * (Ap.length : Int) by omega)
  have N2 := Aside0.mk g1
  have N3 := Aside0.mk g2
  have hd1 := DL (show ¬ (1 + 5 * (Ap.length : Int) + l1_0.length + msum l1_1 + msum l1_2) < 0 by omega)
  have hd2 := DL (show ¬ (1 + (r.length : Int)) < 0 by omega)
  have HHE : Aside0 (∀ (B0 : Option Addr) (d0 : Nat) (W : World), Kd.C (Kd.int .i64) W B0 (marks 1 r.length).length (marks 1 r.length) → r.length ≤ d0 → Calls Try.prog 28 #[.slice B0 r.length d0, .int .i64 1] W fun e w' => e = .returned (.int .i64 (1 + r.length)) ∧ Drawn0 W w') := ⟨fun B0 d0 W q0 q1 => by
    have := laws_heldIntS.calls k13 B0 d0 (marks 1 r.length) 1 _ W q0 (by rw [marks_length]; exact q1) e13
    rw [marks_length] at this
    exact this⟩
  clear e1 e3 e4 e5 e6 e7 e9 e10 e11 e13 ea eb ec hN hAl hAp hI hS hr hfw f0 f1 f2 g1 g2 m1 m2 hL hm
  go_enter Try.func4, Try.ntmps4
  go_upto_region 8 with (first | ((with_reducible refine gate_dst (N := 4) rfl ?_); refine be (cs := #[.int .i64 a0_0, .slice A0_1 l0_1.length c0_1]) (t := 24) ?_; intro g4 hg w1 hbox hb; replace HQ := Aside0.mk (HQ.out.addB hg hbox hb); clear hb hbox hg) | ((with_reducible refine gate_dst (N := 5) rfl ?_); refine be (cs := #[.slice A1_0 l1_0.length c1_0, .slice A1_1 l1_1.length c1_1, .slice A1_2 l1_2.length c1_2]) (t := 28) ?_; intro g5 hg w2 hbox hb; replace HQ := Aside0.mk (HQ.out.addB hg hbox hb); clear hb hbox hg; obtain ⟨hz4a, hz4b, hf4a, hf4b⟩ := bc2 (HQ.out.bx (List.Mem.tail _ (List.Mem.head _))); obtain ⟨hz5a, hz5b, hz5c, hf5a, hf5b, hf5c⟩ := bc3 (HQ.out.bx (List.Mem.head _))) | (go_at_call 14; refine (laws_szNet.calls a0_0 _ _ l0_1 1048576 _ _ (Kd.C_below HR0.out HQ.out.hB) HC0.out ASZ.out).mono ?_; rintro e w3 ⟨rfl, hb⟩; replace HQ := Aside0.mk (HQ.out.below hb); clear hb; clear hz4a hz4b hf4a hf4b hz5a hz5b hz5c hf5a hf5b hf5c; obtain ⟨hz4a, hz4b, hf4a, hf4b⟩ := bc2 (HQ.out.bx (List.Mem.tail _ (List.Mem.head _))); obtain ⟨hz5a, hz5b, hz5c, hf5a, hf5b, hf5c⟩ := bc3 (HQ.out.bx (List.Mem.head _))) | (go_at_call 15; refine (laws_szRank.calls ks _ _ l1_0 _ _ l1_1 _ _ l1_2 _ t _ (Kd.C_below HR1_0.out HQ.out.hB) HC1_0.out (Kd.C_below HR1_1.out HQ.out.hB) HC1_1.out (Kd.C_below HR1_2.out HQ.out.hB) HC1_2.out ES.out).mono ?_; rintro e w4 ⟨rfl, hb⟩; replace HQ := Aside0.mk (HQ.out.below hb); clear hb; clear hz4a hz4b hf4a hf4b hz5a hz5b hz5c hf5a hf5b hf5c))
  replace HQ := Aside0.mk HQ.out.drew
  have BX4 := HQ.out.bx (List.Mem.tail _ (List.Mem.head _))
  have BX5 := HQ.out.bx (List.Mem.head _)
  refine start_ (n := 8) (S := fun w' => w'.cell? ⟨g4, 0, none⟩ = some (.int .i64 a0_0) ∧ w'.cell? ⟨g4, 1, none⟩ = some (.slice A0_1 l0_1.length c0_1) ∧ w'.cell? ⟨g5, 0, none⟩ = some (.slice A1_0 l1_0.length c1_0) ∧ w'.cell? ⟨g5, 1, none⟩ = some (.slice A1_1 l1_1.length c1_1) ∧ w'.cell? ⟨g5, 2, none⟩ = some (.slice A1_2 l1_2.length c1_2)) (ds := []) (zt 8 0) (by kernel_rfl) rfl (by kernel_rfl) ⟨(blk_cell BX4.out 0).trans rfl, (blk_cell BX4.out 1).trans rfl, (blk_cell BX5.out 0).trans rfl, (blk_cell BX5.out 1).trans rfl, (blk_cell BX5.out 2).trans rfl⟩ (fun hHeld => ?_)
  refine with_tabW arc8_tab arc8_bits (fun HT_ HW_ => ?_)
  generalize w4.drew = w5 at HQ BX4 BX5 hHeld ⊢
  refine qz HT_ 4 ?_
  refine qz HT_ 5 ?_
  refine qt HT_ HW_ hHeld 0 ?_
  refine qt HT_ HW_ hHeld 2 ?_
  refine qo HT_ 1 (fun K hK => ?_)
  refine goes_ Try.func17 (by kernel_rfl) rfl #[.agg #[.int .i64 a0_0, .slice A0_1 l0_1.length c0_1]] (by rfl) rfl rfl ul ?_
  refine (laws_toNet.calls k1 a0_0 _ _ l0_1 a0_0 Ap _ (Kd.C_below HR0.out HQ.out.hB) HC0.out E1.out).mono ?_
  rintro e w6 ⟨vn, rfl, ho, hb⟩
  refine ⟨_, rfl, ?_⟩
  obtain ⟨AHT1, cHT1, en⟩ := Kd.R_slice ho
  subst en
  have HT1 := Aside0.mk (Kd.R_reads' ho).2
  replace HQ := Aside0.mk (HQ.out.below hb)
  clear hb ho
  clear BX4 BX5
  have BX4 := HQ.out.bx (List.Mem.tail _ (List.Mem.head _))
  have BX5 := HQ.out.bx (List.Mem.head _)
  refine hK.out _ _ ⟨(blk_cell BX4.out 0).trans rfl, (blk_cell BX4.out 1).trans rfl, (blk_cell BX5.out 0).trans rfl, (blk_cell BX5.out 1).trans rfl, (blk_cell BX5.out 2).trans rfl⟩ (fun hHeld => ?_)
  clear hK K
  refine nz ?_
  refine qo HT_ 3 (fun K hK => ?_)
  refine goes_ Try.func18 (by kernel_rfl) rfl #[.agg #[.slice A1_0 l1_0.length c1_0, .slice A1_1 l1_1.length c1_1, .slice A1_2 l1_2.length c1_2]] (by rfl) rfl rfl ul ?_
  refine (laws_toRank.calls k3 _ _ l1_0 _ _ l1_1 _ _ l1_2 l1_0 l1_1 l1_2 _ (Kd.C_below HR1_0.out HQ.out.hB) HC1_0.out (Kd.C_below HR1_1.out HQ.out.hB) HC1_1.out (Kd.C_below HR1_2.out HQ.out.hB) HC1_2.out E3.out).mono ?_
  rintro e w7 ⟨v0, v1, v2, rfl, q0, q1, q2, hb⟩
  refine ⟨_, rfl, ?_⟩
  obtain ⟨AHT20, cHT20, e0⟩ := Kd.R_slice q0
  subst e0
  obtain ⟨AHT21, cHT21, e0⟩ := Kd.S_slice q1
  subst e0
  obtain ⟨AHT22, cHT22, e0⟩ := Kd.S_slice q2
  subst e0
  have HT2a := Aside0.mk (Kd.R_reads' q0).2
  have HT2b := Aside0.mk (Kd.S_reads' q1).2
  have HT2c := Aside0.mk (Kd.S_reads' q2).2
  replace HT1 := Aside0.mk (And.intro HT1.out.1 (Kd.C_below HT1.out.2 hb))
  replace HQ := Aside0.mk (HQ.out.below hb)
  clear hb q0 q1 q2
  clear BX4 BX5
  have BX4 := HQ.out.bx (List.Mem.tail _ (List.Mem.head _))
  have BX5 := HQ.out.bx (List.Mem.head _)
  refine hK.out _ _ ⟨(blk_cell BX4.out 0).trans rfl, (blk_cell BX4.out 1).trans rfl, (blk_cell BX5.out 0).trans rfl, (blk_cell BX5.out 1).trans rfl, (blk_cell BX5.out 2).trans rfl⟩ (fun hHeld => ?_)
  clear hK K
  refine nz ?_
  refine qo HT_ 6 (fun K hK => ?_)
  refine goes_ Try.func22 (by kernel_rfl) rfl #[.agg #[.int .i64 a0_0, .slice AHT1 Ap.length cHT1], .agg #[.slice AHT20 l1_0.length cHT20, .slice AHT21 l1_1.length cHT21, .slice AHT22 l1_2.length cHT22], .int .i64 a2, .int .i64 a3] (by rfl) rfl rfl ul ?_
  refine (spec_RankArc.calls k4 a0_0 _ _ Ap _ _ l1_0 _ _ l1_1 _ _ l1_2 a2 a3 r _ HT1.out.2 HT1.out.1 HT2a.out.2 HT2a.out.1 HT2b.out.2 HT2b.out.1 HT2c.out.2 HT2c.out.1 E4.out).mono ?_
  rintro e w8 ⟨v0, rfl, ho, hb⟩
  refine ⟨_, rfl, ?_⟩
  obtain ⟨Aw, cw, en⟩ := Kd.R_slice ho
  subst en
  replace HQ := Aside0.mk (HQ.out.addR hb ho)
  clear hb ho HT1 HT2a HT2b HT2c
  clear BX4 BX5
  have BX4 := HQ.out.bx (List.Mem.tail _ (List.Mem.tail _ (List.Mem.head _)))
  have BX5 := HQ.out.bx (List.Mem.tail _ (List.Mem.head _))
  refine hK.out _ _ ⟨(blk_cell BX4.out 0).trans rfl, (blk_cell BX4.out 1).trans rfl, (blk_cell BX5.out 0).trans rfl, (blk_cell BX5.out 1).trans rfl, (blk_cell BX5.out 2).trans rfl⟩ (fun hHeld => ?_)
  clear hK K
  refine nz ?_
  refine qz HT_ 7 ?_
  refine done_ (done_of HT_.out (by kernel_rfl)) ?_
  clear HT_ HW_ hHeld BX4 BX5
  go_upto_region 9 with (fail)
  obtain ⟨hz4a, hz4b, hf4a, hf4b⟩ := bc2 (HQ.out.bx (List.Mem.tail _ (List.Mem.tail _ (List.Mem.head _))))
  go_upto_region 10 with (first | (go_at_call 17; refine (laws_toNet.calls k1 a0_0 _ _ l0_1 a0_0 Ap _ (Kd.C_below HR0.out HQ.out.hB) HC0.out E1.out).mono ?_; rintro e w11 ⟨vn, rfl, ho, hb⟩; obtain ⟨Anw11, cnw11, en⟩ := Kd.R_slice ho; subst en; replace HQ := Aside0.mk (HQ.out.addN hb ho); clear hb ho; clear hz4a hz4b hf4a hf4b) | ((with_reducible refine gate_dst (N := 11) rfl ?_); refine be (cs := #[.int .i64 0, .slice none 0 0]) (t := 35) ?_; intro g11 hg w12 hbox hb; replace HQ := Aside0.mk (HQ.out.addB hg hbox hb); clear hb hbox hg; obtain ⟨hz11a, hz11b, hf11a, hf11b⟩ := bc2 (HQ.out.bx (List.Mem.head _))))
  have HQ2 := Aside0.mk (HQ.out.set2 (.int .i64 a0_0) (.slice Anw11 Ap.length cnw11))
  clear hz11a hz11b hf11a hf11b
  clear HQ
  generalize (w12.setCell ⟨g11, 0, none⟩ (.int .i64 a0_0)).setCell ⟨g11, 1, none⟩ (.slice Anw11 Ap.length cnw11) = w13 at HQ2 ⊢
  have HQ := HQ2
  clear HQ2
  obtain ⟨hz5a, hz5b, hz5c, hf5a, hf5b, hf5c⟩ := bc3 (HQ.out.bx (List.Mem.tail _ (List.Mem.tail _ (List.Mem.tail _ (List.Mem.head _)))))
  go_upto_region 11 with (first | (go_at_call 18; refine (laws_toRank.callsW (ka + kb + kc) _ _ l1_0 _ _ l1_1 _ _ l1_2 _ (Kd.C_below HR1_0.out HQ.out.hB) HC1_0.out (Kd.C_below HR1_1.out HQ.out.hB) HC1_1.out (Kd.C_below HR1_2.out HQ.out.hB) HC1_2.out T0.out T1.out T2.out).mono ?_; rintro e w14 ⟨v0, v1, v2, lo, mid, rfl, h3, hb⟩; have q0 := h3.2.1; have q1 := h3.2.2.1; have q2 := h3.2.2.2; obtain ⟨Ax0, cx0, e0⟩ := Kd.R_slice q0; subst e0; obtain ⟨Ax1, cx1, e0⟩ := Kd.S_slice q1; subst e0; obtain ⟨Ax2, cx2, e0⟩ := Kd.S_slice q2; subst e0; obtain ⟨a_, b_, hq⟩ := HQ.out.add3 hb h3; replace HQ := Aside0.mk hq; clear hb h3 q0 q1 q2 hq; clear hz5a hz5b hz5c hf5a hf5b hf5c) | ((with_reducible refine gate_dst (N := 12) rfl ?_); refine be (cs := #[.slice none 0 0, .slice none 0 0, .slice none 0 0]) (t := 37) ?_; intro g12 hg w15 hbox hb; replace HQ := Aside0.mk (HQ.out.addB hg hbox hb); clear hb hbox hg; obtain ⟨hz12a, hz12b, hz12c, hf12a, hf12b, hf12c⟩ := bc3 (HQ.out.bx (List.Mem.head _))))
  have HQ2 := Aside0.mk (HQ.out.set3 (.slice Ax0 l1_0.length cx0) (.slice Ax1 l1_1.length cx1) (.slice Ax2 l1_2.length cx2))
  clear hz12a hz12b hz12c hf12a hf12b hf12c
  clear HQ
  generalize ((w15.setCell ⟨g12, 0, none⟩ (.slice Ax0 l1_0.length cx0)).setCell ⟨g12, 1, none⟩ (.slice Ax1 l1_1.length cx1)).setCell ⟨g12, 2, none⟩ (.slice Ax2 l1_2.length cx2) = w16 at HQ2 ⊢
  have HQ := HQ2
  clear HQ2
  obtain ⟨hz11a, hz11b, hf11a, hf11b⟩ := bc2 (HQ.out.bx (List.Mem.tail _ (List.Mem.tail _ (List.Mem.tail _ (List.Mem.tail _ (List.Mem.head _)))))); obtain ⟨hz12a, hz12b, hz12c, hf12a, hf12b, hf12c⟩ := bc3 (HQ.out.bx (List.Mem.head _))
  go_upto_region 12 with (go_at_call 23; refine (impl_RankArc.calls k5 a0_0 _ _ Ap _ _ l1_0 _ _ l1_1 _ _ l1_2 a2 a3 r _ (Kd.R_reads' (HQ.out.nt (List.Mem.tail _ (List.Mem.tail _ (List.Mem.tail _ (List.Mem.tail _ (List.Mem.tail _ (List.Mem.head _)))))))).2.2 (Kd.R_reads' (HQ.out.nt (List.Mem.tail _ (List.Mem.tail _ (List.Mem.tail _ (List.Mem.tail _ (List.Mem.tail _ (List.Mem.head _)))))))).2.1 (Kd.R_reads' (HQ.out.rw_ (List.Mem.tail _ (List.Mem.head _)))).2.2 (Kd.R_reads' (HQ.out.rw_ (List.Mem.tail _ (List.Mem.head _)))).2.1 (Kd.S_reads' (HQ.out.tb (List.Mem.tail _ (List.Mem.tail _ (List.Mem.head _))))).2.2 (Kd.S_reads' (HQ.out.tb (List.Mem.tail _ (List.Mem.tail _ (List.Mem.head _))))).2.1 (Kd.S_reads' (HQ.out.tb (List.Mem.tail _ (List.Mem.tail _ (List.Mem.tail _ (List.Mem.head _)))))).2.2 (Kd.S_reads' (HQ.out.tb (List.Mem.tail _ (List.Mem.tail _ (List.Mem.tail _ (List.Mem.head _)))))).2.1 E5.out).mono ?_; rintro e w17 ⟨v0, rfl, ho, hb⟩; obtain ⟨Ag, cg, en⟩ := Kd.R_slice ho; subst en; replace HQ := Aside0.mk (HQ.out.addR hb ho); clear hb ho; clear hz11a hz11b hf11a hf11b hz12a hz12b hz12c hf12a hf12b hf12c)
  go_upto_region 14 with (go_at_call 24; refine (laws_eqIntS.calls k6 _ _ r _ _ r true _ (Kd.R_reads' (HQ.out.rw_ (List.Mem.head _))).2.2 (Kd.R_reads' (HQ.out.rw_ (List.Mem.head _))).2.1 (Kd.R_reads' (HQ.out.rw_ (List.Mem.tail _ (List.Mem.tail _ (List.Mem.tail _ (List.Mem.tail _ (List.Mem.tail _ (List.Mem.tail _ (List.Mem.tail _ (List.Mem.head _)))))))))).2.2 (Kd.R_reads' (HQ.out.rw_ (List.Mem.tail _ (List.Mem.tail _ (List.Mem.tail _ (List.Mem.tail _ (List.Mem.tail _ (List.Mem.tail _ (List.Mem.tail _ (List.Mem.head _)))))))))).2.1 E6.out).mono ?_; rintro e w' ⟨rfl, ⟨nd, rfl⟩⟩; replace HQ := Aside0.mk (HQ.out.drewN nd); generalize w17.drewN nd = w18 at HQ ⊢)
  replace HQ := Aside0.mk HQ.out.drew
  have BX11 := HQ.out.bx (List.Mem.tail _ (List.Mem.tail _ (List.Mem.tail _ (List.Mem.tail _ (List.Mem.tail _ (List.Mem.head _))))))
  have BX4 := HQ.out.bx (List.Mem.tail _ (List.Mem.tail _ (List.Mem.tail _ (List.Mem.tail _ (List.Mem.tail _ (List.Mem.tail _ (List.Mem.tail _ (List.Mem.tail _ (List.Mem.tail _ (List.Mem.head _))))))))))
  refine start_ (n := 5) (S := fun w' => w'.cell? ⟨g11, 0, none⟩ = some (.int .i64 a0_0) ∧ w'.cell? ⟨g11, 1, none⟩ = some (.slice Anw11 Ap.length cnw11) ∧ w'.cell? ⟨g4, 0, none⟩ = some (.int .i64 a0_0) ∧ w'.cell? ⟨g4, 1, none⟩ = some (.slice A0_1 l0_1.length c0_1)) (ds := []) (zt 5 0) (by kernel_rfl) rfl (by kernel_rfl) ⟨(blk_cell BX11.out 0).trans rfl, (blk_cell BX11.out 1).trans rfl, (blk_cell BX4.out 0).trans rfl, (blk_cell BX4.out 1).trans rfl⟩ (fun hHeld => ?_)
  refine with_tabW arc14_tab arc14_bits (fun HT_ HW_ => ?_)
  generalize w18.drew = w19 at HQ BX11 BX4 hHeld ⊢
  refine qt HT_ HW_ hHeld 0 ?_
  refine qt HT_ HW_ hHeld 1 ?_
  refine qo HT_ 2 (fun K hK => ?_)
  refine goes_ Try.func17 (by kernel_rfl) rfl #[.agg #[.int .i64 a0_0, .slice A0_1 l0_1.length c0_1]] (by rfl) rfl rfl ul ?_
  refine (laws_toNet.calls k1 a0_0 _ _ l0_1 a0_0 Ap _ (Kd.C_below HR0.out HQ.out.hB) HC0.out E1.out).mono ?_
  rintro e w20 ⟨vn, rfl, ho, hb⟩
  refine ⟨_, rfl, ?_⟩
  obtain ⟨AHT1, cHT1, en⟩ := Kd.R_slice ho
  subst en
  have HT1 := Aside0.mk (Kd.R_reads' ho).2
  replace HQ := Aside0.mk (HQ.out.below hb)
  clear hb ho
  clear BX11 BX4
  have BX11 := HQ.out.bx (List.Mem.tail _ (List.Mem.tail _ (List.Mem.tail _ (List.Mem.tail _ (List.Mem.tail _ (List.Mem.head _))))))
  have BX4 := HQ.out.bx (List.Mem.tail _ (List.Mem.tail _ (List.Mem.tail _ (List.Mem.tail _ (List.Mem.tail _ (List.Mem.tail _ (List.Mem.tail _ (List.Mem.tail _ (List.Mem.tail _ (List.Mem.head _))))))))))
  refine hK.out _ _ ⟨(blk_cell BX11.out 0).trans rfl, (blk_cell BX11.out 1).trans rfl, (blk_cell BX4.out 0).trans rfl, (blk_cell BX4.out 1).trans rfl⟩ (fun hHeld => ?_)
  clear hK K
  refine nz ?_
  refine qo HT_ 3 (fun K hK => ?_)
  refine goes_ Try.func20 (by kernel_rfl) rfl #[.agg #[.int .i64 a0_0, .slice Anw11 Ap.length cnw11], .agg #[.int .i64 a0_0, .slice AHT1 Ap.length cHT1]] (by rfl) rfl rfl ul ?_
  refine (laws_eqNet.calls k7 a0_0 _ _ Ap a0_0 _ _ Ap true _ (Kd.R_reads' (HQ.out.nt (List.Mem.tail _ (List.Mem.tail _ (List.Mem.tail _ (List.Mem.tail _ (List.Mem.tail _ (List.Mem.tail _ (List.Mem.head _))))))))).2.2 (Kd.R_reads' (HQ.out.nt (List.Mem.tail _ (List.Mem.tail _ (List.Mem.tail _ (List.Mem.tail _ (List.Mem.tail _ (List.Mem.tail _ (List.Mem.head _))))))))).2.1 HT1.out.2 HT1.out.1 E7.out).mono ?_
  rintro e w21 ⟨rfl, hb⟩
  refine ⟨_, rfl, ?_⟩
  replace HQ := Aside0.mk (HQ.out.below hb)
  clear hb HT1
  clear BX11 BX4
  have BX11 := HQ.out.bx (List.Mem.tail _ (List.Mem.tail _ (List.Mem.tail _ (List.Mem.tail _ (List.Mem.tail _ (List.Mem.head _))))))
  have BX4 := HQ.out.bx (List.Mem.tail _ (List.Mem.tail _ (List.Mem.tail _ (List.Mem.tail _ (List.Mem.tail _ (List.Mem.tail _ (List.Mem.tail _ (List.Mem.tail _ (List.Mem.tail _ (List.Mem.head _))))))))))
  refine hK.out _ _ ⟨(blk_cell BX11.out 0).trans rfl, (blk_cell BX11.out 1).trans rfl, (blk_cell BX4.out 0).trans rfl, (blk_cell BX4.out 1).trans rfl⟩ (fun hHeld => ?_)
  clear hK K
  refine nz ?_
  refine qz HT_ 4 ?_
  refine done_ (done_of HT_.out (by kernel_rfl)) ?_
  clear HT_ HW_ hHeld BX11 BX4
  go_upto_region 16 with (fail)
  replace HQ := Aside0.mk HQ.out.drew
  have BX12 := HQ.out.bx (List.Mem.tail _ (List.Mem.head _))
  have BX5 := HQ.out.bx (List.Mem.tail _ (List.Mem.tail _ (List.Mem.tail _ (List.Mem.tail _ (List.Mem.tail _ (List.Mem.tail _ (List.Mem.tail _ (List.Mem.tail _ (List.Mem.head _)))))))))
  refine start_ (n := 5) (S := fun w' => w'.cell? ⟨g12, 0, none⟩ = some (.slice Ax0 l1_0.length cx0) ∧ w'.cell? ⟨g12, 1, none⟩ = some (.slice Ax1 l1_1.length cx1) ∧ w'.cell? ⟨g12, 2, none⟩ = some (.slice Ax2 l1_2.length cx2) ∧ w'.cell? ⟨g5, 0, none⟩ = some (.slice A1_0 l1_0.length c1_0) ∧ w'.cell? ⟨g5, 1, none⟩ = some (.slice A1_1 l1_1.length c1_1) ∧ w'.cell? ⟨g5, 2, none⟩ = some (.slice A1_2 l1_2.length c1_2)) (ds := []) (zt 5 0) (by kernel_rfl) rfl (by kernel_rfl) ⟨(blk_cell BX12.out 0).trans rfl, (blk_cell BX12.out 1).trans rfl, (blk_cell BX12.out 2).trans rfl, (blk_cell BX5.out 0).trans rfl, (blk_cell BX5.out 1).trans rfl, (blk_cell BX5.out 2).trans rfl⟩ (fun hHeld => ?_)
  refine with_tabW arc16_tab arc16_bits (fun HT_ HW_ => ?_)
  generalize w21.drew = w22 at HQ BX12 BX5 hHeld ⊢
  refine qt HT_ HW_ hHeld 0 ?_
  refine qt HT_ HW_ hHeld 1 ?_
  refine qo HT_ 2 (fun K hK => ?_)
  refine goes_ Try.func18 (by kernel_rfl) rfl #[.agg #[.slice A1_0 l1_0.length c1_0, .slice A1_1 l1_1.length c1_1, .slice A1_2 l1_2.length c1_2]] (by rfl) rfl rfl ul ?_
  refine (laws_toRank.calls k3 _ _ l1_0 _ _ l1_1 _ _ l1_2 l1_0 l1_1 l1_2 _ (Kd.C_below HR1_0.out HQ.out.hB) HC1_0.out (Kd.C_below HR1_1.out HQ.out.hB) HC1_1.out (Kd.C_below HR1_2.out HQ.out.hB) HC1_2.out E3.out).mono ?_
  rintro e w23 ⟨v0, v1, v2, rfl, q0, q1, q2, hb⟩
  refine ⟨_, rfl, ?_⟩
  obtain ⟨AHT20, cHT20, e0⟩ := Kd.R_slice q0
  subst e0
  obtain ⟨AHT21, cHT21, e0⟩ := Kd.S_slice q1
  subst e0
  obtain ⟨AHT22, cHT22, e0⟩ := Kd.S_slice q2
  subst e0
  have HT2a := Aside0.mk (Kd.R_reads' q0).2
  have HT2b := Aside0.mk (Kd.S_reads' q1).2
  have HT2c := Aside0.mk (Kd.S_reads' q2).2
  replace HQ := Aside0.mk (HQ.out.below hb)
  clear hb q0 q1 q2
  clear BX12 BX5
  have BX12 := HQ.out.bx (List.Mem.tail _ (List.Mem.head _))
  have BX5 := HQ.out.bx (List.Mem.tail _ (List.Mem.tail _ (List.Mem.tail _ (List.Mem.tail _ (List.Mem.tail _ (List.Mem.tail _ (List.Mem.tail _ (List.Mem.tail _ (List.Mem.head _)))))))))
  refine hK.out _ _ ⟨(blk_cell BX12.out 0).trans rfl, (blk_cell BX12.out 1).trans rfl, (blk_cell BX12.out 2).trans rfl, (blk_cell BX5.out 0).trans rfl, (blk_cell BX5.out 1).trans rfl, (blk_cell BX5.out 2).trans rfl⟩ (fun hHeld => ?_)
  clear hK K
  refine nz ?_
  refine qo HT_ 3 (fun K hK => ?_)
  refine goes_ Try.func21 (by kernel_rfl) rfl #[.agg #[.slice Ax0 l1_0.length cx0, .slice Ax1 l1_1.length cx1, .slice Ax2 l1_2.length cx2], .agg #[.slice AHT20 l1_0.length cHT20, .slice AHT21 l1_1.length cHT21, .slice AHT22 l1_2.length cHT22]] (by rfl) rfl rfl ul ?_
  refine (laws_eqRank.calls k9 _ _ l1_0 _ _ l1_1 _ _ l1_2 _ _ l1_0 _ _ l1_1 _ _ l1_2 true _ (Kd.R_reads' (HQ.out.rw_ (List.Mem.tail _ (List.Mem.tail _ (List.Mem.head _))))).2.2 (Kd.R_reads' (HQ.out.rw_ (List.Mem.tail _ (List.Mem.tail _ (List.Mem.head _))))).2.1 (Kd.S_reads' (HQ.out.tb (List.Mem.tail _ (List.Mem.tail _ (List.Mem.tail _ (List.Mem.head _)))))).2.2 (Kd.S_reads' (HQ.out.tb (List.Mem.tail _ (List.Mem.tail _ (List.Mem.tail _ (List.Mem.head _)))))).2.1 (Kd.S_reads' (HQ.out.tb (List.Mem.tail _ (List.Mem.tail _ (List.Mem.tail _ (List.Mem.tail _ (List.Mem.head _))))))).2.2 (Kd.S_reads' (HQ.out.tb (List.Mem.tail _ (List.Mem.tail _ (List.Mem.tail _ (List.Mem.tail _ (List.Mem.head _))))))).2.1 HT2a.out.2 HT2a.out.1 HT2b.out.2 HT2b.out.1 HT2c.out.2 HT2c.out.1 E9.out).mono ?_
  rintro e w24 ⟨rfl, hb⟩
  refine ⟨_, rfl, ?_⟩
  replace HQ := Aside0.mk (HQ.out.below hb)
  clear hb HT2a HT2b HT2c
  clear BX12 BX5
  have BX12 := HQ.out.bx (List.Mem.tail _ (List.Mem.head _))
  have BX5 := HQ.out.bx (List.Mem.tail _ (List.Mem.tail _ (List.Mem.tail _ (List.Mem.tail _ (List.Mem.tail _ (List.Mem.tail _ (List.Mem.tail _ (List.Mem.tail _ (List.Mem.head _)))))))))
  refine hK.out _ _ ⟨(blk_cell BX12.out 0).trans rfl, (blk_cell BX12.out 1).trans rfl, (blk_cell BX12.out 2).trans rfl, (blk_cell BX5.out 0).trans rfl, (blk_cell BX5.out 1).trans rfl, (blk_cell BX5.out 2).trans rfl⟩ (fun hHeld => ?_)
  clear hK K
  refine nz ?_
  refine qz HT_ 4 ?_
  refine done_ (done_of HT_.out (by kernel_rfl)) ?_
  clear HT_ HW_ hHeld BX12 BX5
  go_upto_region 19 with (fail)
  obtain ⟨hz11a, hz11b, hf11a, hf11b⟩ := bc2 (HQ.out.bx (List.Mem.tail _ (List.Mem.tail _ (List.Mem.tail _ (List.Mem.tail _ (List.Mem.tail _ (List.Mem.head _)))))))
  go_upto_region 20 with (go_at_call 25; refine (laws_markNet.calls k10 a0_0 _ _ Ap 1 _ _ w _ HQ.out.hB (HQ.out.nt (List.Mem.tail _ (List.Mem.tail _ (List.Mem.tail _ (List.Mem.tail _ (List.Mem.tail _ (List.Mem.tail _ (List.Mem.head _)))))))) E10.out).mono ?_; rintro e w25 ⟨rfl, hy, hb, hk⟩; replace HQ := Aside0.mk (XQ.markA [_, _, _, _, _, _] HQ.out hb hk); clear hy hb hk; clear hz11a hz11b hf11a hf11b; simp only [List.cons_append, List.nil_append] at HQ)
  replace HQ := Aside0.mk HQ.out.rot
  simp only [List.cons_append, List.nil_append] at HQ
  replace HQ := Aside0.mk HQ.out.rot
  simp only [List.cons_append, List.nil_append] at HQ
  obtain ⟨hz12a, hz12b, hz12c, hf12a, hf12b, hf12c⟩ := bc3 (HQ.out.bx (List.Mem.tail _ (List.Mem.tail _ (List.Mem.tail _ (List.Mem.tail _ (List.Mem.tail _ (List.Mem.tail _ (List.Mem.tail _ (List.Mem.tail _ (List.Mem.head _))))))))))
  go_upto_region 21 with (go_at_call 26; refine (markRank_x (1 + 5 * (Ap.length : Int)) HQ.out L0.out LS.out N2.out N3.out).mono ?_; rintro e w26 ⟨rfl, hq⟩; replace HQ := Aside0.mk hq; clear hq; clear hz12a hz12b hz12c hf12a hf12b hf12c)
  go_upto_region 23 with (go_at_call 24; refine (laws_eqIntS.calls k6 _ _ r _ _ r true _ (Kd.R_reads' (HQ.out.rw_ (List.Mem.tail _ (List.Mem.tail _ (List.Mem.tail _ (List.Mem.tail _ (List.Mem.tail _ (List.Mem.tail _ (List.Mem.tail _ (List.Mem.head _)))))))))).2.2 (Kd.R_reads' (HQ.out.rw_ (List.Mem.tail _ (List.Mem.tail _ (List.Mem.tail _ (List.Mem.tail _ (List.Mem.tail _ (List.Mem.tail _ (List.Mem.tail _ (List.Mem.head _)))))))))).2.1 (Kd.R_reads' (HQ.out.rw_ (List.Mem.tail _ (List.Mem.tail _ (List.Mem.tail _ (List.Mem.tail _ (List.Mem.head _))))))).2.2 (Kd.R_reads' (HQ.out.rw_ (List.Mem.tail _ (List.Mem.tail _ (List.Mem.tail _ (List.Mem.tail _ (List.Mem.head _))))))).2.1 E6.out).mono ?_; rintro e w' ⟨rfl, ⟨nd, rfl⟩⟩; replace HQ := Aside0.mk (HQ.out.drewN nd); generalize w26.drewN nd = w27 at HQ ⊢)
  have HGL : Aside0 (r.length ≤ cg) := ⟨(Kd.R_reads' (HQ.out.rw_ (List.Mem.tail _ (List.Mem.tail _ (List.Mem.tail _ (List.Mem.tail _ (List.Mem.tail _ (List.Mem.tail _ (List.Mem.tail _ (List.Mem.head _)))))))))).2.1⟩
  go_upto_region 25 with (go_at_call 27; refine (laws_markIntS.calls k11 _ _ r _ _ _ w _ HQ.out.hB (HQ.out.rw_ (List.Mem.tail _ (List.Mem.tail _ (List.Mem.tail _ (List.Mem.tail _ (List.Mem.tail _ (List.Mem.tail _ (List.Mem.tail _ (List.Mem.head _))))))))) E11.out).mono ?_; rintro e w28 ⟨rfl, hy, hb, hk⟩; replace HQ := Aside0.mk (XQ.markR [_, _, _, _, _, _, _] HQ.out hb hk hy); clear hy hb hk; simp only [List.cons_append, List.nil_append] at HQ)
  go_upto_region 31 with (go_at_call 28; refine (HHE.out _ _ _ (Kd.R_reads' (HQ.out.rw_ (List.Mem.tail _ (List.Mem.tail _ (List.Mem.tail _ (List.Mem.tail _ (List.Mem.tail _ (List.Mem.tail _ (List.Mem.tail _ (List.Mem.head _)))))))))).2.2 HGL.out).mono ?_; rintro e w' ⟨rfl, ⟨nd, rfl⟩⟩; replace HQ := Aside0.mk (HQ.out.drewN nd); generalize w28.drewN nd = w29 at HQ ⊢)
  replace HQ := Aside0.mk HQ.out.drew
  have BX4 := HQ.out.bx (List.Mem.tail _ (List.Mem.tail _ (List.Mem.tail _ (List.Mem.tail _ (List.Mem.tail _ (List.Mem.tail _ (List.Mem.head _)))))))
  have BX5 := HQ.out.bx (List.Mem.tail _ (List.Mem.tail _ (List.Mem.tail _ (List.Mem.tail _ (List.Mem.tail _ (List.Mem.head _))))))
  refine start_ (n := 8) (S := fun w' => w'.cell? ⟨g4, 0, none⟩ = some (.int .i64 a0_0) ∧ w'.cell? ⟨g4, 1, none⟩ = some (.slice A0_1 l0_1.length c0_1) ∧ w'.cell? ⟨g5, 0, none⟩ = some (.slice A1_0 l1_0.length c1_0) ∧ w'.cell? ⟨g5, 1, none⟩ = some (.slice A1_1 l1_1.length c1_1) ∧ w'.cell? ⟨g5, 2, none⟩ = some (.slice A1_2 l1_2.length c1_2)) (ds := []) (zt 8 0) (by kernel_rfl) rfl (by kernel_rfl) ⟨(blk_cell BX4.out 0).trans rfl, (blk_cell BX4.out 1).trans rfl, (blk_cell BX5.out 0).trans rfl, (blk_cell BX5.out 1).trans rfl, (blk_cell BX5.out 2).trans rfl⟩ (fun hHeld => ?_)
  refine with_tabW arc31_tab arc31_bits (fun HT_ HW_ => ?_)
  generalize w29.drew = w30 at HQ BX4 BX5 hHeld ⊢
  refine qz HT_ 4 ?_
  refine qz HT_ 5 ?_
  refine qt HT_ HW_ hHeld 0 ?_
  refine qt HT_ HW_ hHeld 2 ?_
  refine qo HT_ 1 (fun K hK => ?_)
  refine goes_ Try.func17 (by kernel_rfl) rfl #[.agg #[.int .i64 a0_0, .slice A0_1 l0_1.length c0_1]] (by rfl) rfl rfl ul ?_
  refine (laws_toNet.calls k1 a0_0 _ _ l0_1 a0_0 Ap _ (Kd.C_below HR0.out HQ.out.hB) HC0.out E1.out).mono ?_
  rintro e w31 ⟨vn, rfl, ho, hb⟩
  refine ⟨_, rfl, ?_⟩
  obtain ⟨AHT1, cHT1, en⟩ := Kd.R_slice ho
  subst en
  have HT1 := Aside0.mk (Kd.R_reads' ho).2
  replace HQ := Aside0.mk (HQ.out.below hb)
  clear hb ho
  clear BX4 BX5
  have BX4 := HQ.out.bx (List.Mem.tail _ (List.Mem.tail _ (List.Mem.tail _ (List.Mem.tail _ (List.Mem.tail _ (List.Mem.tail _ (List.Mem.head _)))))))
  have BX5 := HQ.out.bx (List.Mem.tail _ (List.Mem.tail _ (List.Mem.tail _ (List.Mem.tail _ (List.Mem.tail _ (List.Mem.head _))))))
  refine hK.out _ _ ⟨(blk_cell BX4.out 0).trans rfl, (blk_cell BX4.out 1).trans rfl, (blk_cell BX5.out 0).trans rfl, (blk_cell BX5.out 1).trans rfl, (blk_cell BX5.out 2).trans rfl⟩ (fun hHeld => ?_)
  clear hK K
  refine nz ?_
  refine qo HT_ 3 (fun K hK => ?_)
  refine goes_ Try.func18 (by kernel_rfl) rfl #[.agg #[.slice A1_0 l1_0.length c1_0, .slice A1_1 l1_1.length c1_1, .slice A1_2 l1_2.length c1_2]] (by rfl) rfl rfl ul ?_
  refine (laws_toRank.calls k3 _ _ l1_0 _ _ l1_1 _ _ l1_2 l1_0 l1_1 l1_2 _ (Kd.C_below HR1_0.out HQ.out.hB) HC1_0.out (Kd.C_below HR1_1.out HQ.out.hB) HC1_1.out (Kd.C_below HR1_2.out HQ.out.hB) HC1_2.out E3.out).mono ?_
  rintro e w32 ⟨v0, v1, v2, rfl, q0, q1, q2, hb⟩
  refine ⟨_, rfl, ?_⟩
  obtain ⟨AHT20, cHT20, e0⟩ := Kd.R_slice q0
  subst e0
  obtain ⟨AHT21, cHT21, e0⟩ := Kd.S_slice q1
  subst e0
  obtain ⟨AHT22, cHT22, e0⟩ := Kd.S_slice q2
  subst e0
  have HT2a := Aside0.mk (Kd.R_reads' q0).2
  have HT2b := Aside0.mk (Kd.S_reads' q1).2
  have HT2c := Aside0.mk (Kd.S_reads' q2).2
  replace HT1 := Aside0.mk (And.intro HT1.out.1 (Kd.C_below HT1.out.2 hb))
  replace HQ := Aside0.mk (HQ.out.below hb)
  clear hb q0 q1 q2
  clear BX4 BX5
  have BX4 := HQ.out.bx (List.Mem.tail _ (List.Mem.tail _ (List.Mem.tail _ (List.Mem.tail _ (List.Mem.tail _ (List.Mem.tail _ (List.Mem.head _)))))))
  have BX5 := HQ.out.bx (List.Mem.tail _ (List.Mem.tail _ (List.Mem.tail _ (List.Mem.tail _ (List.Mem.tail _ (List.Mem.head _))))))
  refine hK.out _ _ ⟨(blk_cell BX4.out 0).trans rfl, (blk_cell BX4.out 1).trans rfl, (blk_cell BX5.out 0).trans rfl, (blk_cell BX5.out 1).trans rfl, (blk_cell BX5.out 2).trans rfl⟩ (fun hHeld => ?_)
  clear hK K
  refine nz ?_
  refine qo HT_ 6 (fun K hK => ?_)
  refine goes_ Try.func23 (by kernel_rfl) rfl #[.agg #[.int .i64 a0_0, .slice AHT1 Ap.length cHT1], .agg #[.slice AHT20 l1_0.length cHT20, .slice AHT21 l1_1.length cHT21, .slice AHT22 l1_2.length cHT22], .int .i64 a2, .int .i64 a3] (by rfl) rfl rfl ul ?_
  refine (impl_RankArc.calls k5 a0_0 _ _ Ap _ _ l1_0 _ _ l1_1 _ _ l1_2 a2 a3 r _ HT1.out.2 HT1.out.1 HT2a.out.2 HT2a.out.1 HT2b.out.2 HT2b.out.1 HT2c.out.2 HT2c.out.1 E5.out).mono ?_
  rintro e w33 ⟨v0, rfl, ho, hb⟩
  refine ⟨_, rfl, ?_⟩
  obtain ⟨Ah, ch, en⟩ := Kd.R_slice ho
  subst en
  replace HQ := Aside0.mk (HQ.out.addR hb ho)
  clear hb ho HT1 HT2a HT2b HT2c
  clear BX4 BX5
  have BX4 := HQ.out.bx (List.Mem.tail _ (List.Mem.tail _ (List.Mem.tail _ (List.Mem.tail _ (List.Mem.tail _ (List.Mem.tail _ (List.Mem.tail _ (List.Mem.head _))))))))
  have BX5 := HQ.out.bx (List.Mem.tail _ (List.Mem.tail _ (List.Mem.tail _ (List.Mem.tail _ (List.Mem.tail _ (List.Mem.tail _ (List.Mem.head _)))))))
  refine hK.out _ _ ⟨(blk_cell BX4.out 0).trans rfl, (blk_cell BX4.out 1).trans rfl, (blk_cell BX5.out 0).trans rfl, (blk_cell BX5.out 1).trans rfl, (blk_cell BX5.out 2).trans rfl⟩ (fun hHeld => ?_)
  clear hK K
  refine nz ?_
  refine qz HT_ 7 ?_
  refine done_ (done_of HT_.out (by kernel_rfl)) ?_
  clear HT_ HW_ hHeld BX4 BX5
  go_upto_region 34 with (go_at_call 24; refine (laws_eqIntS.calls k6 _ _ r _ _ r true _ (Kd.R_reads' (HQ.out.rw_ (List.Mem.head _))).2.2 (Kd.R_reads' (HQ.out.rw_ (List.Mem.head _))).2.1 (Kd.R_reads' (HQ.out.rw_ (List.Mem.tail _ (List.Mem.tail _ (List.Mem.tail _ (List.Mem.tail _ (List.Mem.tail _ (List.Mem.head _)))))))).2.2 (Kd.R_reads' (HQ.out.rw_ (List.Mem.tail _ (List.Mem.tail _ (List.Mem.tail _ (List.Mem.tail _ (List.Mem.tail _ (List.Mem.head _)))))))).2.1 E6.out).mono ?_; rintro e w' ⟨rfl, ⟨nd, rfl⟩⟩; replace HQ := Aside0.mk (HQ.out.drewN nd); generalize w33.drewN nd = w34 at HQ ⊢)
  go_wp2_with (go_at_call 28; refine (HHE.out _ _ _ (Kd.R_reads' (HQ.out.rw_ (List.Mem.tail _ (List.Mem.tail _ (List.Mem.tail _ (List.Mem.tail _ (List.Mem.tail _ (List.Mem.tail _ (List.Mem.tail _ (List.Mem.tail _ (List.Mem.head _))))))))))).2.2 HGL.out).mono ?_; rintro e w' ⟨rfl, ⟨nd, rfl⟩⟩; replace HQ := Aside0.mk (HQ.out.drewN nd); generalize w34.drewN nd = w35 at HQ ⊢)
  go_ret
  exact ⟨rfl, HQ.out.hB⟩
end Go.Proofs.Ytdlaaccnaokdnaa.P
