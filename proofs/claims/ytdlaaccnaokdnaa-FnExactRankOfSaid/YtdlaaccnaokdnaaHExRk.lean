/- The walk of the law FnExactRankOf, by hand: what came back is written over. -/
import Derived.Test.YtdlaaccnaokdnaaHRkW
import Derived.Test.YtdlaaccnaokdnaaMRankR
import Derived.Test.YtdlaaccnaokdnaaMRankE
import Derived.Test.YtdlaaccnaokdnaaMRankH
set_option linter.unusedVariables false
set_option linter.unusedSimpArgs false
namespace Go.Proofs.Ytdlaaccnaokdnaa.P
open Go.RowKit Go.Proofs.Ytdlaaccnaokdnaa.M Go.Proofs.YtdlaaccnaokdnaaV.PrintWords Go.Proofs.YtdlaaccnaokdnaaV.PrintLast Go.Proofs.YtdlaaccnaokdnaaV.PrintMore
def exRk_T : Bool × List (List Nat × List Nat) := (true, [([], []), ([], []), ([1], [1]), ([0, 2, 2], [0, 2]), ([3], [3])])
def exRk_B : List Nat := [0, 0, 2, 7, 15]
theorem exRk_tab : rtab .any (opsOf Try.f9 13) = exRk_T := by kernel_rfl
theorem exRk_bits : waitsOk exRk_T.2 exRk_B = true := by kernel_rfl
set_option maxHeartbeats 16000000 in
set_option maxRecDepth 100000 in
theorem laws_FnExactRankOf.calls (a0_0 : Int) (A0_1 : Option Addr) (c0_1 : Nat) (l0_1 : List S103) (A1 : Option Addr) (c1 : Nat) (l1 : List Int) (w : World) (hr0 : Kd.C k103 w A0_1 l0_1.length l0_1) (hc0 : l0_1.length ≤ c0_1) (hr1 : Kd.C (Kd.int .i64) w A1 l1.length l1) (hc1 : l1.length ≤ c1) (hm : l0_1.length ≤ 9223372036854775807) :
    Calls Try.prog 9 #[.agg #[.int .i64 a0_0, .slice A0_1 l0_1.length c0_1], .slice A1 l1.length c1] w fun e w' => e = .returned (.bool true) ∧ Below w.heap.size w w' := by
  have hu24 := Try.underlying24
  have hu35 := Try.underlying35
  have hu37 := Try.underlying37
  have HR0 := Aside0.mk hr0
  have HC0 := Aside0.mk hc0
  have HR1 := Aside0.mk hr1
  have HC1 := Aside0.mk hc1
  clear hr0 hc0 hr1 hc1
  have HQ := Aside0.mk (XQ.start w)
  have ASZ := Aside0.mk (szNet_val a0_0 l0_1 hm)
  by_cases hx : (l1.length : Int) > 1048576
  · have hd := dl hx
    clear hx
    go_enter Try.func9, Try.ntmps9
    go_wp2_with ((with_reducible refine gate_dst (N := 2) rfl ?_); refine be (cs := #[.int .i64 a0_0, .slice A0_1 l0_1.length c0_1]) (t := 24) ?_; intro g2 hg w1 hbox hb; replace HQ := Aside0.mk (HQ.out.addB hg hbox hb); clear hb hbox hg; obtain ⟨hz2a, hz2b, hf2a, hf2b⟩ := bc2 (HQ.out.bx (List.Mem.head _)))
    go_ret
    exact ⟨rfl, HQ.out.hB⟩
  have hdx := DL hx
  by_cases hL : l0_1.length ≤ 1048576
  rotate_left
  · rw [if_neg hL] at ASZ
    clear hx
    go_enter Try.func9, Try.ntmps9
    go_wp2_with (first | ((with_reducible refine gate_dst (N := 2) rfl ?_); refine be (cs := #[.int .i64 a0_0, .slice A0_1 l0_1.length c0_1]) (t := 24) ?_; intro g2 hg w1 hbox hb; replace HQ := Aside0.mk (HQ.out.addB hg hbox hb); clear hb hbox hg; obtain ⟨hz2a, hz2b, hf2a, hf2b⟩ := bc2 (HQ.out.bx (List.Mem.head _))) | (go_at_call 14; refine (laws_szNet.calls a0_0 _ _ l0_1 1048576 _ _ (Kd.C_below HR0.out HQ.out.hB) HC0.out ASZ.out).mono ?_; rintro e w2 ⟨rfl, hb⟩; replace HQ := Aside0.mk (HQ.out.below hb); clear hb; clear hz2a hz2b hf2a hf2b; obtain ⟨hz2a, hz2b, hf2a, hf2b⟩ := bc2 (HQ.out.bx (List.Mem.head _))))
    go_ret
    exact ⟨rfl, HQ.out.hB⟩
  rw [if_pos hL] at ASZ
  have hneg := DL (show ¬ (1048576 - (l0_1.length : Int)) < 0 by omega)
  obtain ⟨Ap, hAp⟩ : ∃ Ap, Ap = l0_1.map toA := ⟨_, rfl⟩
  have hAl : Ap.length = l0_1.length := by rw [hAp, List.length_map]
  have hN := toNet_map a0_0 l0_1 hL
  rw [← hAp] at hN
  have hI := implRankOf_eq a0_0 Ap l1 (by omega)
  have hS := specRankOf_ev a0_0 Ap l1 (by omega) (by omega)
  obtain ⟨s1, s2, s3⟩ := rkOf_eight a0_0 Ap l1
  obtain ⟨⟨r1, r2, r3⟩, hr⟩ : ∃ r, rkOf a0_0 Ap l1 = r := ⟨_, rfl⟩
  rw [hr] at hI hS s1 s2 s3
  simp only at s1 s2 s3
  have t2 := s2.sum
  have t3 := s3.sum
  have u2 := s2.1
  have u3 := s3.1
  obtain ⟨k1, e1⟩ := hN.get
  obtain ⟨k2, e2⟩ := (toIntS_self l1 (by omega)).get
  obtain ⟨k4, e4⟩ := hS.get
  obtain ⟨k6, e6⟩ := (eqRank_self (o := r1) (c := r2) (v := r3) (by omega) s2.few s3.few).get
  obtain ⟨k7, e7⟩ := (eqNet_self a0_0 Ap (by omega)).get
  obtain ⟨k8, e8⟩ := (eqIntS_self l1 (by omega)).get
  obtain ⟨k10, e10⟩ := (markNet_marks a0_0 Ap 1 (by omega) (by omega)).get
  obtain ⟨k11, e11⟩ := (markIntS_marks l1 (1 + 5 * (Ap.length : Int)) (by omega) (by omega)).get
  obtain ⟨k13, e13⟩ := (heldRank_marks 1 r1.length r2 r3 (by omega) (by omega) (by omega) (by omega)).get
  have E5 := Aside0.mk hI
  have E1 := Aside0.mk e1
  have E2 := Aside0.mk e2
  have E4 := Aside0.mk e4
  have E6 := Aside0.mk e6
  have E7 := Aside0.mk e7
  have E8 := Aside0.mk e8
  have E10 := Aside0.mk e10
  have E11 := Aside0.mk e11
  have LS := Aside0.mk (show (1 : Int) + r1.length + msum r2 + msum r3 ≤ 4611686018427387904 by omega)
  have N2 := Aside0.mk (show r2.length ≤ 1048576 by omega)
  have N3 := Aside0.mk (show r3.length ≤ 1048576 by omega)
  have hd1 := DL (show ¬ (1 + 5 * (Ap.length : Int) + l1.length) < 0 by omega)
  have hd2 := DL (show ¬ ((1 : Int) + r1.length + msum r2 + msum r3) < 0 by omega)
  have HHE : Aside0 (∀ (B0 : Option Addr) (d0 : Nat) (B1 : Option Addr) (d1 : Nat) (B2 : Option Addr) (d2 : Nat) (W : World), Kd.C (Kd.int .i64) W B0 (marks 1 r1.length).length (marks 1 r1.length) → r1.length ≤ d0 → Kd.C kSS W B1 (marksSS (1 + r1.length) r2).length (marksSS (1 + r1.length) r2) → r2.length ≤ d1 → Kd.C kSS W B2 (marksSS (1 + r1.length + msum r2) r3).length (marksSS (1 + r1.length + msum r2) r3) → r3.length ≤ d2 → Calls Try.prog 32 #[.agg #[.slice B0 r1.length d0, .slice B1 r2.length d1, .slice B2 r3.length d2], .int .i64 1] W fun e w' => e = .returned (.int .i64 (1 + r1.length + msum r2 + msum r3)) ∧ Below W.heap.size W w') := ⟨fun B0 d0 B1 d1 B2 d2 W g0 g1 g2 g3 g4 g5 => by
    have := laws_heldRank.calls k13 B0 d0 (marks 1 r1.length) B1 d1 (marksSS (1 + r1.length) r2) B2 d2 (marksSS (1 + r1.length + msum r2) r3) 1 _ W g0 (by rw [marks_length]; exact g1) g2 (by rw [marksSS_length]; exact g3) g4 (by rw [marksSS_length]; exact g5) e13
    rw [marks_length, marksSS_length, marksSS_length] at this
    exact this⟩
  clear e1 e2 e4 e6 e7 e8 e10 e11 e13 hN hAl hAp hI hS hx hr s1 s2 s3 t2 t3 u2 u3
  go_enter Try.func9, Try.ntmps9
  go_upto_region 7 with (first | ((with_reducible refine gate_dst (N := 2) rfl ?_); refine be (cs := #[.int .i64 a0_0, .slice A0_1 l0_1.length c0_1]) (t := 24) ?_; intro g2 hg w1 hbox hb; replace HQ := Aside0.mk (HQ.out.addB hg hbox hb); clear hb hbox hg; obtain ⟨hz2a, hz2b, hf2a, hf2b⟩ := bc2 (HQ.out.bx (List.Mem.head _))) | (go_at_call 14; refine (laws_szNet.calls a0_0 _ _ l0_1 1048576 _ _ (Kd.C_below HR0.out HQ.out.hB) HC0.out ASZ.out).mono ?_; rintro e w2 ⟨rfl, hb⟩; replace HQ := Aside0.mk (HQ.out.below hb); clear hb; clear hz2a hz2b hf2a hf2b; obtain ⟨hz2a, hz2b, hf2a, hf2b⟩ := bc2 (HQ.out.bx (List.Mem.head _))))
  go_upto_region 8 with (first | (go_at_call 17; refine (laws_toNet.calls k1 a0_0 _ _ l0_1 a0_0 Ap _ (Kd.C_below HR0.out HQ.out.hB) HC0.out E1.out).mono ?_; rintro e w3 ⟨vn, rfl, ho, hb⟩; obtain ⟨Anw3, cnw3, en⟩ := Kd.R_slice ho; subst en; have HT1 := Aside0.mk (Kd.R_reads' ho).2; replace HQ := Aside0.mk (HQ.out.below hb); clear hb ho; clear hz2a hz2b hf2a hf2b; obtain ⟨hz2a, hz2b, hf2a, hf2b⟩ := bc2 (HQ.out.bx (List.Mem.head _))) | (go_at_call 30; refine (laws_toIntS.calls k2 A1 c1 l1 l1 _ (Kd.C_below HR1.out HQ.out.hB) HC1.out E2.out).mono ?_; rintro e w4 ⟨vn, rfl, ho, hb⟩; obtain ⟨Anw4, cnw4, en⟩ := Kd.R_slice ho; subst en; have HT2 := Aside0.mk (Kd.R_reads' ho).2; replace HT1 := Aside0.mk (And.intro HT1.out.1 (Kd.C_below HT1.out.2 hb)); replace HQ := Aside0.mk (HQ.out.below hb); clear hb ho; clear hz2a hz2b hf2a hf2b; obtain ⟨hz2a, hz2b, hf2a, hf2b⟩ := bc2 (HQ.out.bx (List.Mem.head _))) | (go_at_call 39; refine (spec_RankOf.calls k4 a0_0 _ _ Ap _ _ l1 r1 r2 r3 _ HT1.out.2 HT1.out.1 HT2.out.2 HT2.out.1 E4.out).mono ?_; rintro e w5 ⟨v0, v1, v2, rfl, q0, q1, q2, hb⟩; obtain ⟨Aw0, cw0, e0⟩ := Kd.R_slice q0; subst e0; obtain ⟨Aw1, cw1, e0⟩ := Kd.S_slice q1; subst e0; obtain ⟨Aw2, cw2, e0⟩ := Kd.S_slice q2; subst e0; replace HQ := Aside0.mk (HQ.out.addW hb q0 q1 q2); clear hb q0 q1 q2 HT1 HT2; clear hz2a hz2b hf2a hf2b) | ((with_reducible refine gate_dst (N := 6) rfl ?_); refine be (cs := #[.slice none 0 0, .slice none 0 0, .slice none 0 0]) (t := 37) ?_; intro g6 hg w6 hbox hb; replace HQ := Aside0.mk (HQ.out.addB hg hbox hb); clear hb hbox hg; obtain ⟨hz6a, hz6b, hz6c, hf6a, hf6b, hf6c⟩ := bc3 (HQ.out.bx (List.Mem.head _))))
  have HQ2 := Aside0.mk (HQ.out.set3 (.slice Aw0 r1.length cw0) (.slice Aw1 r2.length cw1) (.slice Aw2 r3.length cw2))
  clear hz6a hz6b hz6c hf6a hf6b hf6c
  clear HQ
  generalize ((w6.setCell ⟨g6, 0, none⟩ (.slice Aw0 r1.length cw0)).setCell ⟨g6, 1, none⟩ (.slice Aw1 r2.length cw1)).setCell ⟨g6, 2, none⟩ (.slice Aw2 r3.length cw2) = w7 at HQ2 ⊢
  have HQ := HQ2
  clear HQ2
  obtain ⟨hz2a, hz2b, hf2a, hf2b⟩ := bc2 (HQ.out.bx (List.Mem.tail _ (List.Mem.tail _ (List.Mem.head _))))
  go_upto_region 9 with (first | (go_at_call 17; refine (laws_toNet.calls k1 a0_0 _ _ l0_1 a0_0 Ap _ (Kd.C_below HR0.out HQ.out.hB) HC0.out E1.out).mono ?_; rintro e w8 ⟨vn, rfl, ho, hb⟩; obtain ⟨Anw8, cnw8, en⟩ := Kd.R_slice ho; subst en; replace HQ := Aside0.mk (HQ.out.addN hb ho); clear hb ho; clear hz2a hz2b hf2a hf2b) | ((with_reducible refine gate_dst (N := 7) rfl ?_); refine be (cs := #[.int .i64 0, .slice none 0 0]) (t := 35) ?_; intro g7 hg w9 hbox hb; replace HQ := Aside0.mk (HQ.out.addB hg hbox hb); clear hb hbox hg; obtain ⟨hz7a, hz7b, hf7a, hf7b⟩ := bc2 (HQ.out.bx (List.Mem.head _))))
  have HQ2 := Aside0.mk (HQ.out.set2 (.int .i64 a0_0) (.slice Anw8 Ap.length cnw8))
  clear hz7a hz7b hf7a hf7b
  clear HQ
  generalize (w9.setCell ⟨g7, 0, none⟩ (.int .i64 a0_0)).setCell ⟨g7, 1, none⟩ (.slice Anw8 Ap.length cnw8) = w10 at HQ2 ⊢
  have HQ := HQ2
  clear HQ2
  go_upto_region 10 with (go_at_call 30; refine (laws_toIntS.calls k2 A1 c1 l1 l1 _ (Kd.C_below HR1.out HQ.out.hB) HC1.out E2.out).mono ?_; rintro e w11 ⟨vn, rfl, ho, hb⟩; obtain ⟨Anw11, cnw11, en⟩ := Kd.R_slice ho; subst en; replace HQ := Aside0.mk (HQ.out.addR hb ho); clear hb ho; skip)
  obtain ⟨hz7a, hz7b, hf7a, hf7b⟩ := bc2 (HQ.out.bx (List.Mem.tail _ (List.Mem.head _)))
  go_upto_region 11 with (first | (go_at_call 37; refine (impl_RankOf.callsW a0_0 _ _ Ap _ _ l1 r1 r2 r3 _ (Kd.R_reads' (HQ.out.nt (List.Mem.tail _ (List.Mem.tail _ (List.Mem.head _))))).2.2 (Kd.R_reads' (HQ.out.nt (List.Mem.tail _ (List.Mem.tail _ (List.Mem.head _))))).2.1 (Kd.R_reads' (HQ.out.rw_ (List.Mem.head _))).2.2 (Kd.R_reads' (HQ.out.rw_ (List.Mem.head _))).2.1 E5.out).mono ?_; rintro e w12 ⟨v0, v1, v2, lo, mid, rfl, h3, hb⟩; have q0 := h3.2.1; have q1 := h3.2.2.1; have q2 := h3.2.2.2; obtain ⟨Ag0, cg0, e0⟩ := Kd.R_slice q0; subst e0; obtain ⟨Ag1, cg1, e0⟩ := Kd.S_slice q1; subst e0; obtain ⟨Ag2, cg2, e0⟩ := Kd.S_slice q2; subst e0; obtain ⟨a_, b_, hq⟩ := HQ.out.add3 hb h3; replace HQ := Aside0.mk hq; clear hb h3 q0 q1 q2 hq; clear hz7a hz7b hf7a hf7b) | ((with_reducible refine gate_dst (N := 9) rfl ?_); refine be (cs := #[.slice none 0 0, .slice none 0 0, .slice none 0 0]) (t := 37) ?_; intro g9 hg w13 hbox hb; replace HQ := Aside0.mk (HQ.out.addB hg hbox hb); clear hb hbox hg; obtain ⟨hz9a, hz9b, hz9c, hf9a, hf9b, hf9c⟩ := bc3 (HQ.out.bx (List.Mem.head _))))
  have HQ2 := Aside0.mk (HQ.out.set3 (.slice Ag0 r1.length cg0) (.slice Ag1 r2.length cg1) (.slice Ag2 r3.length cg2))
  clear hz9a hz9b hz9c hf9a hf9b hf9c
  clear HQ
  generalize ((w13.setCell ⟨g9, 0, none⟩ (.slice Ag0 r1.length cg0)).setCell ⟨g9, 1, none⟩ (.slice Ag1 r2.length cg1)).setCell ⟨g9, 2, none⟩ (.slice Ag2 r3.length cg2) = w14 at HQ2 ⊢
  have HQ := HQ2
  clear HQ2
  obtain ⟨hz9a, hz9b, hz9c, hf9a, hf9b, hf9c⟩ := bc3 (HQ.out.bx (List.Mem.head _)); obtain ⟨hz6a, hz6b, hz6c, hf6a, hf6b, hf6c⟩ := bc3 (HQ.out.bx (List.Mem.tail _ (List.Mem.tail _ (List.Mem.tail _ (List.Mem.tail _ (List.Mem.tail _ (List.Mem.tail _ (List.Mem.tail _ (List.Mem.head _)))))))))
  go_upto_region 13 with (go_at_call 21; refine (laws_eqRank.calls k6 _ _ r1 _ _ r2 _ _ r3 _ _ r1 _ _ r2 _ _ r3 true _ (Kd.R_reads' (HQ.out.rw_ (List.Mem.tail _ (List.Mem.head _)))).2.2 (Kd.R_reads' (HQ.out.rw_ (List.Mem.tail _ (List.Mem.head _)))).2.1 (Kd.S_reads' (HQ.out.tb (List.Mem.tail _ (List.Mem.tail _ (List.Mem.head _))))).2.2 (Kd.S_reads' (HQ.out.tb (List.Mem.tail _ (List.Mem.tail _ (List.Mem.head _))))).2.1 (Kd.S_reads' (HQ.out.tb (List.Mem.tail _ (List.Mem.tail _ (List.Mem.tail _ (List.Mem.head _)))))).2.2 (Kd.S_reads' (HQ.out.tb (List.Mem.tail _ (List.Mem.tail _ (List.Mem.tail _ (List.Mem.head _)))))).2.1 (Kd.R_reads' (HQ.out.rk (List.Mem.tail _ (List.Mem.tail _ (List.Mem.tail _ (List.Mem.tail _ (List.Mem.tail _ (List.Mem.tail _ (List.Mem.tail _ (List.Mem.tail _ (List.Mem.head _)))))))))).1).2.2 (Kd.R_reads' (HQ.out.rk (List.Mem.tail _ (List.Mem.tail _ (List.Mem.tail _ (List.Mem.tail _ (List.Mem.tail _ (List.Mem.tail _ (List.Mem.tail _ (List.Mem.tail _ (List.Mem.head _)))))))))).1).2.1 (Kd.S_reads' (HQ.out.rk (List.Mem.tail _ (List.Mem.tail _ (List.Mem.tail _ (List.Mem.tail _ (List.Mem.tail _ (List.Mem.tail _ (List.Mem.tail _ (List.Mem.tail _ (List.Mem.head _)))))))))).2.1).2.2 (Kd.S_reads' (HQ.out.rk (List.Mem.tail _ (List.Mem.tail _ (List.Mem.tail _ (List.Mem.tail _ (List.Mem.tail _ (List.Mem.tail _ (List.Mem.tail _ (List.Mem.tail _ (List.Mem.head _)))))))))).2.1).2.1 (Kd.S_reads' (HQ.out.rk (List.Mem.tail _ (List.Mem.tail _ (List.Mem.tail _ (List.Mem.tail _ (List.Mem.tail _ (List.Mem.tail _ (List.Mem.tail _ (List.Mem.tail _ (List.Mem.head _)))))))))).2.2).2.2 (Kd.S_reads' (HQ.out.rk (List.Mem.tail _ (List.Mem.tail _ (List.Mem.tail _ (List.Mem.tail _ (List.Mem.tail _ (List.Mem.tail _ (List.Mem.tail _ (List.Mem.tail _ (List.Mem.head _)))))))))).2.2).2.1 E6.out).mono ?_; rintro e w15 ⟨rfl, hb⟩; replace HQ := Aside0.mk (HQ.out.below hb); clear hb; clear hz9a hz9b hz9c hf9a hf9b hf9c hz6a hz6b hz6c hf6a hf6b hf6c)
  replace HQ := Aside0.mk HQ.out.drew
  have BX2 := HQ.out.bx (List.Mem.tail _ (List.Mem.tail _ (List.Mem.tail _ (List.Mem.tail _ (List.Mem.tail _ (List.Mem.tail _ (List.Mem.tail _ (List.Mem.tail _ (List.Mem.tail _ (List.Mem.head _))))))))))
  have BX7 := HQ.out.bx (List.Mem.tail _ (List.Mem.tail _ (List.Mem.tail _ (List.Mem.tail _ (List.Mem.tail _ (List.Mem.head _))))))
  refine start_ (n := 5) (S := fun w' => w'.cell? ⟨g7, 0, none⟩ = some (.int .i64 a0_0) ∧ w'.cell? ⟨g7, 1, none⟩ = some (.slice Anw8 Ap.length cnw8) ∧ w'.cell? ⟨g2, 0, none⟩ = some (.int .i64 a0_0) ∧ w'.cell? ⟨g2, 1, none⟩ = some (.slice A0_1 l0_1.length c0_1)) (ds := []) (zt 5 0) (by kernel_rfl) rfl (by kernel_rfl) (b22_ BX7 BX2) (fun hHeld => ?_)
  refine with_tabW exRk_tab exRk_bits (fun HT_ HW_ => ?_)
  generalize w15.drew = w16 at HQ BX2 BX7 hHeld ⊢
  refine qt HT_ HW_ hHeld 0 ?_
  refine qt HT_ HW_ hHeld 1 ?_
  refine qo HT_ 2 (fun K hK => ?_)
  refine goes_ Try.func17 (by kernel_rfl) rfl #[.agg #[.int .i64 a0_0, .slice A0_1 l0_1.length c0_1]] (by rfl) rfl rfl ul ?_
  refine (laws_toNet.calls k1 a0_0 _ _ l0_1 a0_0 Ap _ (Kd.C_below HR0.out HQ.out.hB) HC0.out E1.out).mono ?_
  rintro e w17 ⟨vn, rfl, ho, hb⟩
  refine ⟨_, rfl, ?_⟩
  obtain ⟨Ant, cnt, en⟩ := Kd.R_slice ho
  subst en
  have HT1 := Aside0.mk (Kd.R_reads' ho).2
  replace HQ := Aside0.mk (HQ.out.below hb)
  clear hb ho BX2 BX7
  have BX2 := HQ.out.bx (List.Mem.tail _ (List.Mem.tail _ (List.Mem.tail _ (List.Mem.tail _ (List.Mem.tail _ (List.Mem.tail _ (List.Mem.tail _ (List.Mem.tail _ (List.Mem.tail _ (List.Mem.head _))))))))))
  have BX7 := HQ.out.bx (List.Mem.tail _ (List.Mem.tail _ (List.Mem.tail _ (List.Mem.tail _ (List.Mem.tail _ (List.Mem.head _))))))
  refine hK.out _ _ (b22_ BX7 BX2) (fun hHeld => ?_)
  clear hK K
  refine nz ?_
  refine qo HT_ 3 (fun K hK => ?_)
  refine goes_ Try.func20 (by kernel_rfl) rfl #[.agg #[.int .i64 a0_0, .slice Anw8 Ap.length cnw8], .agg #[.int .i64 a0_0, .slice Ant Ap.length cnt]] (by rfl) rfl rfl ul ?_
  refine (laws_eqNet.calls k7 a0_0 _ _ Ap a0_0 _ _ Ap true _ (Kd.R_reads' (HQ.out.nt (List.Mem.tail _ (List.Mem.tail _ (List.Mem.tail _ (List.Mem.tail _ (List.Mem.tail _ (List.Mem.tail _ (List.Mem.head _))))))))).2.2 (Kd.R_reads' (HQ.out.nt (List.Mem.tail _ (List.Mem.tail _ (List.Mem.tail _ (List.Mem.tail _ (List.Mem.tail _ (List.Mem.tail _ (List.Mem.head _))))))))).2.1 HT1.out.2 HT1.out.1 E7.out).mono ?_
  rintro e w18 ⟨rfl, hb⟩
  refine ⟨_, rfl, ?_⟩
  replace HQ := Aside0.mk (HQ.out.below hb)
  clear hb BX2 BX7 HT1
  have BX2 := HQ.out.bx (List.Mem.tail _ (List.Mem.tail _ (List.Mem.tail _ (List.Mem.tail _ (List.Mem.tail _ (List.Mem.tail _ (List.Mem.tail _ (List.Mem.tail _ (List.Mem.tail _ (List.Mem.head _))))))))))
  have BX7 := HQ.out.bx (List.Mem.tail _ (List.Mem.tail _ (List.Mem.tail _ (List.Mem.tail _ (List.Mem.tail _ (List.Mem.head _))))))
  refine hK.out _ _ (b22_ BX7 BX2) (fun hHeld => ?_)
  clear hK K
  refine nz ?_
  refine qz HT_ 4 ?_
  refine done_ (done_of HT_.out (by kernel_rfl)) ?_
  clear HT_ HW_ hHeld BX2 BX7
  go_upto_region 17 with (first | (go_at_call 30; refine (laws_toIntS.calls k2 A1 c1 l1 l1 _ (Kd.C_below HR1.out HQ.out.hB) HC1.out E2.out).mono ?_; rintro e w19 ⟨vn, rfl, ho, hb⟩; obtain ⟨Anw19, cnw19, en⟩ := Kd.R_slice ho; subst en; have HT1 := Aside0.mk (Kd.R_reads' ho).2; replace HQ := Aside0.mk (HQ.out.below hb); clear hb ho; skip) | (go_at_call 24; refine (laws_eqIntS.calls k8 _ _ l1 _ _ l1 true _ (Kd.R_reads' (HQ.out.rw_ (List.Mem.tail _ (List.Mem.tail _ (List.Mem.tail _ (List.Mem.tail _ (List.Mem.head _))))))).2.2 (Kd.R_reads' (HQ.out.rw_ (List.Mem.tail _ (List.Mem.tail _ (List.Mem.tail _ (List.Mem.tail _ (List.Mem.head _))))))).2.1 HT1.out.2 HT1.out.1 E8.out).mono ?_; rintro e w' ⟨rfl, ⟨nd, rfl⟩⟩; replace HQ := Aside0.mk (HQ.out.drewN nd); clear HT1; generalize w19.drewN nd = w20 at HQ ⊢))
  go_upto_region 18 with (fail)
  obtain ⟨hz7a, hz7b, hf7a, hf7b⟩ := bc2 (HQ.out.bx (List.Mem.tail _ (List.Mem.tail _ (List.Mem.tail _ (List.Mem.tail _ (List.Mem.tail _ (List.Mem.head _)))))))
  go_upto_region 19 with (go_at_call 25; refine (laws_markNet.calls k10 a0_0 _ _ Ap 1 _ _ w _ HQ.out.hB (HQ.out.nt (List.Mem.tail _ (List.Mem.tail _ (List.Mem.tail _ (List.Mem.tail _ (List.Mem.tail _ (List.Mem.tail _ (List.Mem.head _)))))))) E10.out).mono ?_; rintro e w21 ⟨rfl, hy, hb, hk⟩; replace HQ := Aside0.mk (XQ.markA [_, _, _, _, _, _] HQ.out hb hk); clear hy hb hk; clear hz7a hz7b hf7a hf7b; simp only [List.cons_append, List.nil_append] at HQ)
  go_upto_region 20 with (go_at_call 27; refine (laws_markIntS.calls k11 _ _ l1 _ _ _ w _ HQ.out.hB (HQ.out.rw_ (List.Mem.tail _ (List.Mem.tail _ (List.Mem.tail _ (List.Mem.tail _ (List.Mem.head _)))))) E11.out).mono ?_; rintro e w22 ⟨rfl, hy, hb, hk⟩; replace HQ := Aside0.mk (XQ.markA [_, _, _, _] HQ.out hb hk); clear hy hb hk; simp only [List.cons_append, List.nil_append] at HQ)
  obtain ⟨hz9a, hz9b, hz9c, hf9a, hf9b, hf9c⟩ := bc3 (HQ.out.bx (List.Mem.head _)); obtain ⟨hz6a, hz6b, hz6c, hf6a, hf6b, hf6c⟩ := bc3 (HQ.out.bx (List.Mem.tail _ (List.Mem.tail _ (List.Mem.tail _ (List.Mem.tail _ (List.Mem.tail _ (List.Mem.head _)))))))
  go_upto_region 22 with (go_at_call 21; refine (laws_eqRank.calls k6 _ _ r1 _ _ r2 _ _ r3 _ _ r1 _ _ r2 _ _ r3 true _ (Kd.R_reads' (HQ.out.rw_ (List.Mem.tail _ (List.Mem.head _)))).2.2 (Kd.R_reads' (HQ.out.rw_ (List.Mem.tail _ (List.Mem.head _)))).2.1 (Kd.S_reads' (HQ.out.tb (List.Mem.tail _ (List.Mem.tail _ (List.Mem.head _))))).2.2 (Kd.S_reads' (HQ.out.tb (List.Mem.tail _ (List.Mem.tail _ (List.Mem.head _))))).2.1 (Kd.S_reads' (HQ.out.tb (List.Mem.tail _ (List.Mem.tail _ (List.Mem.tail _ (List.Mem.head _)))))).2.2 (Kd.S_reads' (HQ.out.tb (List.Mem.tail _ (List.Mem.tail _ (List.Mem.tail _ (List.Mem.head _)))))).2.1 (Kd.R_reads' (HQ.out.rk (List.Mem.tail _ (List.Mem.tail _ (List.Mem.tail _ (List.Mem.tail _ (List.Mem.tail _ (List.Mem.tail _ (List.Mem.head _)))))))).1).2.2 (Kd.R_reads' (HQ.out.rk (List.Mem.tail _ (List.Mem.tail _ (List.Mem.tail _ (List.Mem.tail _ (List.Mem.tail _ (List.Mem.tail _ (List.Mem.head _)))))))).1).2.1 (Kd.S_reads' (HQ.out.rk (List.Mem.tail _ (List.Mem.tail _ (List.Mem.tail _ (List.Mem.tail _ (List.Mem.tail _ (List.Mem.tail _ (List.Mem.head _)))))))).2.1).2.2 (Kd.S_reads' (HQ.out.rk (List.Mem.tail _ (List.Mem.tail _ (List.Mem.tail _ (List.Mem.tail _ (List.Mem.tail _ (List.Mem.tail _ (List.Mem.head _)))))))).2.1).2.1 (Kd.S_reads' (HQ.out.rk (List.Mem.tail _ (List.Mem.tail _ (List.Mem.tail _ (List.Mem.tail _ (List.Mem.tail _ (List.Mem.tail _ (List.Mem.head _)))))))).2.2).2.2 (Kd.S_reads' (HQ.out.rk (List.Mem.tail _ (List.Mem.tail _ (List.Mem.tail _ (List.Mem.tail _ (List.Mem.tail _ (List.Mem.tail _ (List.Mem.head _)))))))).2.2).2.1 E6.out).mono ?_; rintro e w23 ⟨rfl, hb⟩; replace HQ := Aside0.mk (HQ.out.below hb); clear hb; clear hz9a hz9b hz9c hf9a hf9b hf9c hz6a hz6b hz6c hf6a hf6b hf6c)
  replace HQ := Aside0.mk HQ.out.rot
  simp only [List.cons_append, List.nil_append] at HQ
  go_upto_region 23 with (fail)
  obtain ⟨hz9a, hz9b, hz9c, hf9a, hf9b, hf9c⟩ := bc3 (HQ.out.bx (List.Mem.tail _ (List.Mem.tail _ (List.Mem.tail _ (List.Mem.tail _ (List.Mem.tail _ (List.Mem.tail _ (List.Mem.tail _ (List.Mem.head _)))))))))
  go_upto_region 24 with (go_at_call 26; refine (markRank_x 1 HQ.out (by decide) LS.out N2.out N3.out).mono ?_; rintro e w24 ⟨rfl, hq⟩; replace HQ := Aside0.mk hq; clear hq; clear hz9a hz9b hz9c hf9a hf9b hf9c)
  go_upto_region 25 with (fail)
  obtain ⟨hz9a, hz9b, hz9c, hf9a, hf9b, hf9c⟩ := bc3 (HQ.out.bx (List.Mem.tail _ (List.Mem.tail _ (List.Mem.tail _ (List.Mem.tail _ (List.Mem.tail _ (List.Mem.tail _ (List.Mem.tail _ (List.Mem.head _)))))))))
  go_upto_region 30 with (go_at_call 32; refine (HHE.out _ _ _ _ _ _ _ (Kd.R_reads' (HQ.out.rw_ (List.Mem.head _))).2.2 (Kd.R_reads' (HQ.out.rw_ (List.Mem.head _))).2.1 (Kd.S_reads' (HQ.out.tb (List.Mem.tail _ (List.Mem.head _)))).2.2 (Kd.S_reads' (HQ.out.tb (List.Mem.tail _ (List.Mem.head _)))).2.1 (Kd.S_reads' (HQ.out.tb (List.Mem.tail _ (List.Mem.tail _ (List.Mem.head _))))).2.2 (Kd.S_reads' (HQ.out.tb (List.Mem.tail _ (List.Mem.tail _ (List.Mem.head _))))).2.1).mono ?_; rintro e w25 ⟨rfl, hb⟩; replace HQ := Aside0.mk (HQ.out.below hb); clear hb; clear hz9a hz9b hz9c hf9a hf9b hf9c)
  obtain ⟨hz2a, hz2b, hf2a, hf2b⟩ := bc2 (HQ.out.bx (List.Mem.tail _ (List.Mem.tail _ (List.Mem.tail _ (List.Mem.tail _ (List.Mem.tail _ (List.Mem.tail _ (List.Mem.head _))))))))
  go_upto_region 31 with (first | (go_at_call 17; refine (laws_toNet.calls k1 a0_0 _ _ l0_1 a0_0 Ap _ (Kd.C_below HR0.out HQ.out.hB) HC0.out E1.out).mono ?_; rintro e w26 ⟨vn, rfl, ho, hb⟩; obtain ⟨Anw26, cnw26, en⟩ := Kd.R_slice ho; subst en; have HT1 := Aside0.mk (Kd.R_reads' ho).2; replace HQ := Aside0.mk (HQ.out.below hb); clear hb ho; clear hz2a hz2b hf2a hf2b; obtain ⟨hz2a, hz2b, hf2a, hf2b⟩ := bc2 (HQ.out.bx (List.Mem.tail _ (List.Mem.tail _ (List.Mem.tail _ (List.Mem.tail _ (List.Mem.tail _ (List.Mem.tail _ (List.Mem.head _))))))))) | (go_at_call 30; refine (laws_toIntS.calls k2 A1 c1 l1 l1 _ (Kd.C_below HR1.out HQ.out.hB) HC1.out E2.out).mono ?_; rintro e w27 ⟨vn, rfl, ho, hb⟩; obtain ⟨Anw27, cnw27, en⟩ := Kd.R_slice ho; subst en; have HT2 := Aside0.mk (Kd.R_reads' ho).2; replace HT1 := Aside0.mk (And.intro HT1.out.1 (Kd.C_below HT1.out.2 hb)); replace HQ := Aside0.mk (HQ.out.below hb); clear hb ho; clear hz2a hz2b hf2a hf2b; obtain ⟨hz2a, hz2b, hf2a, hf2b⟩ := bc2 (HQ.out.bx (List.Mem.tail _ (List.Mem.tail _ (List.Mem.tail _ (List.Mem.tail _ (List.Mem.tail _ (List.Mem.tail _ (List.Mem.head _))))))))) | (go_at_call 37; refine (impl_RankOf.calls a0_0 _ _ Ap _ _ l1 r1 r2 r3 _ HT1.out.2 HT1.out.1 HT2.out.2 HT2.out.1 E5.out).mono ?_; rintro e w28 ⟨v0, v1, v2, rfl, q0, q1, q2, hb⟩; obtain ⟨Ah0, ch0, e0⟩ := Kd.R_slice q0; subst e0; obtain ⟨Ah1, ch1, e0⟩ := Kd.S_slice q1; subst e0; obtain ⟨Ah2, ch2, e0⟩ := Kd.S_slice q2; subst e0; replace HQ := Aside0.mk (HQ.out.addW hb q0 q1 q2); clear hb q0 q1 q2 HT1 HT2; clear hz2a hz2b hf2a hf2b) | ((with_reducible refine gate_dst (N := 13) rfl ?_); refine be (cs := #[.slice none 0 0, .slice none 0 0, .slice none 0 0]) (t := 37) ?_; intro g13 hg w29 hbox hb; replace HQ := Aside0.mk (HQ.out.addB hg hbox hb); clear hb hbox hg; obtain ⟨hz13a, hz13b, hz13c, hf13a, hf13b, hf13c⟩ := bc3 (HQ.out.bx (List.Mem.head _))))
  have HQ2 := Aside0.mk (HQ.out.set3 (.slice Ah0 r1.length ch0) (.slice Ah1 r2.length ch1) (.slice Ah2 r3.length ch2))
  clear hz13a hz13b hz13c hf13a hf13b hf13c
  clear HQ
  generalize ((w29.setCell ⟨g13, 0, none⟩ (.slice Ah0 r1.length ch0)).setCell ⟨g13, 1, none⟩ (.slice Ah1 r2.length ch1)).setCell ⟨g13, 2, none⟩ (.slice Ah2 r3.length ch2) = w30 at HQ2 ⊢
  have HQ := HQ2
  clear HQ2
  obtain ⟨hz13a, hz13b, hz13c, hf13a, hf13b, hf13c⟩ := bc3 (HQ.out.bx (List.Mem.head _)); obtain ⟨hz6a, hz6b, hz6c, hf6a, hf6b, hf6c⟩ := bc3 (HQ.out.bx (List.Mem.tail _ (List.Mem.tail _ (List.Mem.tail _ (List.Mem.tail _ (List.Mem.tail _ (List.Mem.tail _ (List.Mem.head _))))))))
  go_upto_region 33 with (go_at_call 21; refine (laws_eqRank.calls k6 _ _ r1 _ _ r2 _ _ r3 _ _ r1 _ _ r2 _ _ r3 true _ (Kd.R_reads' (HQ.out.rk (List.Mem.tail _ (List.Mem.head _))).1).2.2 (Kd.R_reads' (HQ.out.rk (List.Mem.tail _ (List.Mem.head _))).1).2.1 (Kd.S_reads' (HQ.out.rk (List.Mem.tail _ (List.Mem.head _))).2.1).2.2 (Kd.S_reads' (HQ.out.rk (List.Mem.tail _ (List.Mem.head _))).2.1).2.1 (Kd.S_reads' (HQ.out.rk (List.Mem.tail _ (List.Mem.head _))).2.2).2.2 (Kd.S_reads' (HQ.out.rk (List.Mem.tail _ (List.Mem.head _))).2.2).2.1 (Kd.R_reads' (HQ.out.rk (List.Mem.tail _ (List.Mem.tail _ (List.Mem.tail _ (List.Mem.tail _ (List.Mem.tail _ (List.Mem.tail _ (List.Mem.tail _ (List.Mem.head _))))))))).1).2.2 (Kd.R_reads' (HQ.out.rk (List.Mem.tail _ (List.Mem.tail _ (List.Mem.tail _ (List.Mem.tail _ (List.Mem.tail _ (List.Mem.tail _ (List.Mem.tail _ (List.Mem.head _))))))))).1).2.1 (Kd.S_reads' (HQ.out.rk (List.Mem.tail _ (List.Mem.tail _ (List.Mem.tail _ (List.Mem.tail _ (List.Mem.tail _ (List.Mem.tail _ (List.Mem.tail _ (List.Mem.head _))))))))).2.1).2.2 (Kd.S_reads' (HQ.out.rk (List.Mem.tail _ (List.Mem.tail _ (List.Mem.tail _ (List.Mem.tail _ (List.Mem.tail _ (List.Mem.tail _ (List.Mem.tail _ (List.Mem.head _))))))))).2.1).2.1 (Kd.S_reads' (HQ.out.rk (List.Mem.tail _ (List.Mem.tail _ (List.Mem.tail _ (List.Mem.tail _ (List.Mem.tail _ (List.Mem.tail _ (List.Mem.tail _ (List.Mem.head _))))))))).2.2).2.2 (Kd.S_reads' (HQ.out.rk (List.Mem.tail _ (List.Mem.tail _ (List.Mem.tail _ (List.Mem.tail _ (List.Mem.tail _ (List.Mem.tail _ (List.Mem.tail _ (List.Mem.head _))))))))).2.2).2.1 E6.out).mono ?_; rintro e w31 ⟨rfl, hb⟩; replace HQ := Aside0.mk (HQ.out.below hb); clear hb; clear hz13a hz13b hz13c hf13a hf13b hf13c hz6a hz6b hz6c hf6a hf6b hf6c)
  go_upto_region 34 with (fail)
  obtain ⟨hz9a, hz9b, hz9c, hf9a, hf9b, hf9c⟩ := bc3 (HQ.out.bx (List.Mem.tail _ (List.Mem.tail _ (List.Mem.tail _ (List.Mem.tail _ (List.Mem.tail _ (List.Mem.tail _ (List.Mem.tail _ (List.Mem.tail _ (List.Mem.tail _ (List.Mem.head _)))))))))))
  go_wp2_with (go_at_call 32; refine (HHE.out _ _ _ _ _ _ _ (Kd.R_reads' (HQ.out.rw_ (List.Mem.tail _ (List.Mem.tail _ (List.Mem.head _))))).2.2 (Kd.R_reads' (HQ.out.rw_ (List.Mem.tail _ (List.Mem.tail _ (List.Mem.head _))))).2.1 (Kd.S_reads' (HQ.out.tb (List.Mem.tail _ (List.Mem.tail _ (List.Mem.tail _ (List.Mem.head _)))))).2.2 (Kd.S_reads' (HQ.out.tb (List.Mem.tail _ (List.Mem.tail _ (List.Mem.tail _ (List.Mem.head _)))))).2.1 (Kd.S_reads' (HQ.out.tb (List.Mem.tail _ (List.Mem.tail _ (List.Mem.tail _ (List.Mem.tail _ (List.Mem.head _))))))).2.2 (Kd.S_reads' (HQ.out.tb (List.Mem.tail _ (List.Mem.tail _ (List.Mem.tail _ (List.Mem.tail _ (List.Mem.head _))))))).2.1).mono ?_; rintro e w32 ⟨rfl, hb⟩; replace HQ := Aside0.mk (HQ.out.below hb); clear hb; clear hz9a hz9b hz9c hf9a hf9b hf9c)
  go_ret
  exact ⟨rfl, HQ.out.hB⟩
end Go.Proofs.Ytdlaaccnaokdnaa.P
