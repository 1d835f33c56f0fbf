/- Contract: impl.CostRank, by hand: it tells where the rank's parts lie. -/
import Derived.Test.YtdlaaccnaokdnaaHXq
import Derived.Test.YtdlaaccnaokdnaaPFImplRankok
import Derived.Test.YtdlaaccnaokdnaaPFImplMetricok
import Derived.Test.YtdlaaccnaokdnaaPFImplNetPriced
import Derived.Test.YtdlaaccnaokdnaaHRank
import Derived.Test.YtdlaaccnaokdnaaHGuard
import Derived.Test.YtdlaaccnaokdnaaMRankK
set_option linter.unusedVariables false
set_option linter.unusedSimpArgs false
namespace Go.Proofs.Ytdlaaccnaokdnaa.P
open Go.RowKit Go.Proofs.Ytdlaaccnaokdnaa.M Go.Proofs.YtdlaaccnaokdnaaV.PrintWords Go.Proofs.YtdlaaccnaokdnaaV.PrintLast Go.Proofs.YtdlaaccnaokdnaaV.PrintMore
def cow3_T : Bool × List (List Nat × List Nat) := (true, [([], []), ([], []), ([0, 1], [0, 1]), ([], []), ([3], [3]), ([2, 4, 2], [2, 4]), ([], []), ([6, 5, 5, 0, 1, 2, 3, 4, 5, 6], [5, 6])])
def cow3_B : List Nat := [0, 0, 3, 0, 8, 31, 0, 127]
theorem cow3_tab : rtab .any (opsOf Try.f31 3) = cow3_T := by kernel_rfl
theorem cow3_bits : waitsOk cow3_T.2 cow3_B = true := by kernel_rfl
theorem cntR_same {F' F : Int → Int → Int} {i : Int} {j : Nat} (h : F' i (j : Int) = F i (j : Int)) : cntR (dF F' F) i (j + 1) = cntR (dF F' F) i j := by
  rw [cntR_succ, if_neg (by simp [dF, h]), Int.add_zero]
theorem cntR_other {F' F : Int → Int → Int} {i : Int} {j : Nat} (h : ¬ F' i (j : Int) = F i (j : Int)) : cntR (dF F' F) i (j + 1) = cntR (dF F' F) i j + 1 := by
  rw [cntR_succ, if_pos (by simp [dF, h])]
set_option maxHeartbeats 4000000 in
set_option maxRecDepth 100000 in
theorem impl_CostRank.callsN1 (k : Nat) (a0_0 : Int) (A0_1 : Option Addr) (c0_1 : Nat) (l0_1 : List S61) (A1_0 : Option Addr) (c1_0 : Nat) (l1_0 : List Int) (A1_1 : Option Addr) (c1_1 : Nat) (l1_1 : List (List Int)) (A1_2 : Option Addr) (c1_2 : Nat) (l1_2 : List (List Int)) (A2 : Option Addr) (c2 : Nat) (l2 : List Int) (w : World) (hr0_1 : Kd.C k61 w A0_1 l0_1.length l0_1) (hc0_1 : l0_1.length ≤ c0_1) (hr1_0 : Kd.C (Kd.int .i64) w A1_0 l1_0.length l1_0) (hc1_0 : l1_0.length ≤ c1_0) (hr1_1 : Kd.C (Kd.slice 3 (Kd.int .i64)) w A1_1 l1_1.length l1_1) (hc1_1 : l1_1.length ≤ c1_1) (hr1_2 : Kd.C (Kd.slice 3 (Kd.int .i64)) w A1_2 l1_2.length l1_2) (hc1_2 : l1_2.length ≤ c1_2) (hr2 : Kd.C (Kd.int .i64) w A2 l2.length l2) (hc2 : l2.length ≤ c2) (h1 : impl_RankOk.f k a0_0 l0_1 l1_0 l1_1 l1_2 = some false) :
    Calls Try.prog 31 #[.agg #[.int .i64 a0_0, .slice A0_1 l0_1.length c0_1], .agg #[.slice A1_0 l1_0.length c1_0, .slice A1_1 l1_1.length c1_1, .slice A1_2 l1_2.length c1_2], .slice A2 l2.length c2] w fun e w' => ∃ v0_ v1_ v2_ : Value, ∃ lo mid : Nat, e = .returned (.tuple #[.agg #[v0_, v1_, v2_], .int .i64 (-1)]) ∧ Rk3 w' w.heap.size lo mid v0_ v1_ v2_ [] [] [] ∧ Below w.heap.size w w' := by
  have hu35 := Try.underlying35
  have hu37 := Try.underlying37
  have HR0 := Aside0.mk hr0_1; have HC0 := Aside0.mk hc0_1
  have HR1_0 := Aside0.mk hr1_0; have HC1_0 := Aside0.mk hc1_0
  have HR1_1 := Aside0.mk hr1_1; have HC1_1 := Aside0.mk hc1_1
  have HR1_2 := Aside0.mk hr1_2; have HC1_2 := Aside0.mk hc1_2
  have HR2 := Aside0.mk hr2; have HC2 := Aside0.mk hc2
  have HQ := Aside0.mk (XQ.start w)
  clear hr0_1 hc0_1 hr1_0 hc1_0 hr1_1 hc1_1 hr1_2 hc1_2 hr2 hc2
  have F1 := Aside0.mk h1
  clear h1
  go_enter Try.func31, Try.ntmps31
  go_wp2_with (first | ((with_reducible refine gate_dst (N := 3) rfl ?_); refine be (cs := #[.int .i64 a0_0, .slice A0_1 l0_1.length c0_1]) (t := 35) ?_; intro g3 hg w1 hbox hb; replace HQ := Aside0.mk (HQ.out.addB hg hbox hb); clear hb hbox hg) | ((with_reducible refine gate_dst (N := 4) rfl ?_); refine be (cs := #[.slice A1_0 l1_0.length c1_0, .slice A1_1 l1_1.length c1_1, .slice A1_2 l1_2.length c1_2]) (t := 37) ?_; intro g4 hg w2 hbox hb; replace HQ := Aside0.mk (HQ.out.addB hg hbox hb); clear hb hbox hg) | ((with_reducible refine gate_dst (N := 6) rfl ?_); refine be (cs := #[.slice none 0 0, .slice none 0 0, .slice none 0 0]) (t := 37) ?_; intro g6 hg w3 hbox hb; replace HQ := Aside0.mk (HQ.out.addB hg hbox hb); clear hb hbox hg; obtain ⟨hz3a, hz3b, hf3a, hf3b⟩ := bc2 (HQ.out.bx (List.Mem.tail _ (List.Mem.tail _ (List.Mem.head _)))); obtain ⟨hz4a, hz4b, hz4c, hf4a, hf4b, hf4c⟩ := bc3 (HQ.out.bx (List.Mem.tail _ (List.Mem.head _)))) | ((with_reducible refine gate_callee (f := 41) rfl ?_); refine goesL_ (some 16) rfl rfl Try.func41 (by kernel_rfl) rfl #[.agg #[.int .i64 a0_0, .slice A0_1 l0_1.length c0_1], .agg #[.slice A1_0 l1_0.length c1_0, .slice A1_1 l1_1.length c1_1, .slice A1_2 l1_2.length c1_2]] rfl ul ?_; refine (impl_RankOk.calls k a0_0 _ _ l0_1 _ _ l1_0 _ _ l1_1 _ _ l1_2 false _ (Kd.C_below HR0.out HQ.out.hB) HC0.out (Kd.C_below HR1_0.out HQ.out.hB) HC1_0.out (Kd.C_below HR1_1.out HQ.out.hB) HC1_1.out (Kd.C_below HR1_2.out HQ.out.hB) HC1_2.out F1.out).mono ?_; rintro e w4 ⟨rfl, hb⟩; refine ⟨_, rfl, ?_⟩; replace HQ := Aside0.mk (HQ.out.below hb); clear hb; clear hz3a hz3b hf3a hf3b hz4a hz4b hz4c hf4a hf4b hf4c; obtain ⟨hy0, hy1, hy2, he0, he1, he2⟩ := bc3 (HQ.out.bx (List.Mem.head _))))
  have BK6 := HQ.out.bx (List.Mem.head _)
  refine bodyPost_ret (results_ct rfl _ _ g6 37 #[.slice none 0 0, .slice none 0 0, .slice none 0 0] (0, 0) _ rfl (pu3 _ _ _ BK6.out) Try.underlying37 rfl (by kernel_rfl)) rfl ?_
  exact ⟨_, _, _, 0, 0, rfl, Rk3.nil _ _, (HQ.out.set3 _ _ _).hB⟩
set_option maxHeartbeats 4000000 in
set_option maxRecDepth 100000 in
theorem impl_CostRank.callsN2 (k : Nat) (a0_0 : Int) (A0_1 : Option Addr) (c0_1 : Nat) (l0_1 : List S61) (A1_0 : Option Addr) (c1_0 : Nat) (l1_0 : List Int) (A1_1 : Option Addr) (c1_1 : Nat) (l1_1 : List (List Int)) (A1_2 : Option Addr) (c1_2 : Nat) (l1_2 : List (List Int)) (A2 : Option Addr) (c2 : Nat) (l2 : List Int) (w : World) (hr0_1 : Kd.C k61 w A0_1 l0_1.length l0_1) (hc0_1 : l0_1.length ≤ c0_1) (hr1_0 : Kd.C (Kd.int .i64) w A1_0 l1_0.length l1_0) (hc1_0 : l1_0.length ≤ c1_0) (hr1_1 : Kd.C (Kd.slice 3 (Kd.int .i64)) w A1_1 l1_1.length l1_1) (hc1_1 : l1_1.length ≤ c1_1) (hr1_2 : Kd.C (Kd.slice 3 (Kd.int .i64)) w A1_2 l1_2.length l1_2) (hc1_2 : l1_2.length ≤ c1_2) (hr2 : Kd.C (Kd.int .i64) w A2 l2.length l2) (hc2 : l2.length ≤ c2) (h1 : impl_RankOk.f k a0_0 l0_1 l1_0 l1_1 l1_2 = some true) (h2 : impl_metricOk.f a0_0 l0_1 l2 = some false) :
    Calls Try.prog 31 #[.agg #[.int .i64 a0_0, .slice A0_1 l0_1.length c0_1], .agg #[.slice A1_0 l1_0.length c1_0, .slice A1_1 l1_1.length c1_1, .slice A1_2 l1_2.length c1_2], .slice A2 l2.length c2] w fun e w' => ∃ v0_ v1_ v2_ : Value, ∃ lo mid : Nat, e = .returned (.tuple #[.agg #[v0_, v1_, v2_], .int .i64 (-1)]) ∧ Rk3 w' w.heap.size lo mid v0_ v1_ v2_ [] [] [] ∧ Below w.heap.size w w' := by
  have hu35 := Try.underlying35
  have hu37 := Try.underlying37
  have HR0 := Aside0.mk hr0_1; have HC0 := Aside0.mk hc0_1
  have HR1_0 := Aside0.mk hr1_0; have HC1_0 := Aside0.mk hc1_0
  have HR1_1 := Aside0.mk hr1_1; have HC1_1 := Aside0.mk hc1_1
  have HR1_2 := Aside0.mk hr1_2; have HC1_2 := Aside0.mk hc1_2
  have HR2 := Aside0.mk hr2; have HC2 := Aside0.mk hc2
  have HQ := Aside0.mk (XQ.start w)
  clear hr0_1 hc0_1 hr1_0 hc1_0 hr1_1 hc1_1 hr1_2 hc1_2 hr2 hc2
  have F1 := Aside0.mk h1
  have F2 := Aside0.mk h2
  clear h1 h2
  go_enter Try.func31, Try.ntmps31
  go_wp2_with (first | ((with_reducible refine gate_dst (N := 3) rfl ?_); refine be (cs := #[.int .i64 a0_0, .slice A0_1 l0_1.length c0_1]) (t := 35) ?_; intro g3 hg w1 hbox hb; replace HQ := Aside0.mk (HQ.out.addB hg hbox hb); clear hb hbox hg) | ((with_reducible refine gate_dst (N := 4) rfl ?_); refine be (cs := #[.slice A1_0 l1_0.length c1_0, .slice A1_1 l1_1.length c1_1, .slice A1_2 l1_2.length c1_2]) (t := 37) ?_; intro g4 hg w2 hbox hb; replace HQ := Aside0.mk (HQ.out.addB hg hbox hb); clear hb hbox hg) | ((with_reducible refine gate_dst (N := 6) rfl ?_); refine be (cs := #[.slice none 0 0, .slice none 0 0, .slice none 0 0]) (t := 37) ?_; intro g6 hg w3 hbox hb; replace HQ := Aside0.mk (HQ.out.addB hg hbox hb); clear hb hbox hg; obtain ⟨hz3a, hz3b, hf3a, hf3b⟩ := bc2 (HQ.out.bx (List.Mem.tail _ (List.Mem.tail _ (List.Mem.head _)))); obtain ⟨hz4a, hz4b, hz4c, hf4a, hf4b, hf4c⟩ := bc3 (HQ.out.bx (List.Mem.tail _ (List.Mem.head _)))) | ((with_reducible refine gate_callee (f := 41) rfl ?_); refine goesL_ (some 16) rfl rfl Try.func41 (by kernel_rfl) rfl #[.agg #[.int .i64 a0_0, .slice A0_1 l0_1.length c0_1], .agg #[.slice A1_0 l1_0.length c1_0, .slice A1_1 l1_1.length c1_1, .slice A1_2 l1_2.length c1_2]] rfl ul ?_; refine (impl_RankOk.calls k a0_0 _ _ l0_1 _ _ l1_0 _ _ l1_1 _ _ l1_2 true _ (Kd.C_below HR0.out HQ.out.hB) HC0.out (Kd.C_below HR1_0.out HQ.out.hB) HC1_0.out (Kd.C_below HR1_1.out HQ.out.hB) HC1_1.out (Kd.C_below HR1_2.out HQ.out.hB) HC1_2.out F1.out).mono ?_; rintro e w4 ⟨rfl, hb⟩; refine ⟨_, rfl, ?_⟩; replace HQ := Aside0.mk (HQ.out.below hb); clear hb; clear hz3a hz3b hf3a hf3b hz4a hz4b hz4c hf4a hf4b hf4c; obtain ⟨hz3a, hz3b, hf3a, hf3b⟩ := bc2 (HQ.out.bx (List.Mem.tail _ (List.Mem.tail _ (List.Mem.head _))))) | (go_at_call 70; refine (impl_metricOk.calls a0_0 _ _ l0_1 _ _ l2 false _ (Kd.C_below HR0.out HQ.out.hB) HC0.out (Kd.C_below HR2.out HQ.out.hB) HC2.out F2.out).mono ?_; rintro e w5 ⟨rfl, hb⟩; replace HQ := Aside0.mk (HQ.out.below hb); clear hb; clear hz3a hz3b hf3a hf3b; obtain ⟨hy0, hy1, hy2, he0, he1, he2⟩ := bc3 (HQ.out.bx (List.Mem.head _))))
  have BK6 := HQ.out.bx (List.Mem.head _)
  refine bodyPost_ret (results_ct rfl _ _ g6 37 #[.slice none 0 0, .slice none 0 0, .slice none 0 0] (0, 0) _ rfl (pu3 _ _ _ BK6.out) Try.underlying37 rfl (by kernel_rfl)) rfl ?_
  exact ⟨_, _, _, 0, 0, rfl, Rk3.nil _ _, (HQ.out.set3 _ _ _).hB⟩
set_option maxHeartbeats 8000000 in
set_option maxRecDepth 100000 in
theorem impl_CostRank.callsW (k kp : Nat) (a0_0 : Int) (A0_1 : Option Addr) (c0_1 : Nat) (l0_1 : List S61) (A1_0 : Option Addr) (c1_0 : Nat) (l1_0 : List Int) (A1_1 : Option Addr) (c1_1 : Nat) (l1_1 : List (List Int)) (A1_2 : Option Addr) (c1_2 : Nat) (l1_2 : List (List Int)) (A2 : Option Addr) (c2 : Nat) (l2 : List Int) (lp : List S61) (N : Nat) (F' F : Int → Int → Int) (V' : List (List Int)) (w : World) (hr0_1 : Kd.C k61 w A0_1 l0_1.length l0_1) (hc0_1 : l0_1.length ≤ c0_1) (hr1_0 : Kd.C (Kd.int .i64) w A1_0 l1_0.length l1_0) (hc1_0 : l1_0.length ≤ c1_0) (hr1_1 : Kd.C (Kd.slice 3 (Kd.int .i64)) w A1_1 l1_1.length l1_1) (hc1_1 : l1_1.length ≤ c1_1) (hr1_2 : Kd.C (Kd.slice 3 (Kd.int .i64)) w A1_2 l1_2.length l1_2) (hc1_2 : l1_2.length ≤ c1_2) (hr2 : Kd.C (Kd.int .i64) w A2 l2.length l2) (hc2 : l2.length ≤ c2) (h1 : impl_RankOk.f k a0_0 l0_1 l1_0 l1_1 l1_2 = some true) (h2 : impl_metricOk.f a0_0 l0_1 l2 = some true) (h3 : impl_Net_priced.f kp a0_0 l0_1 l2 = some (a0_0, lp)) (h4 : impl_rankOf.f a0_0 lp l1_0 = some (l1_0, mat N F', V')) (hN : N ≤ 8) (hc : l1_1 = mat N F) :
    Calls Try.prog 31 #[.agg #[.int .i64 a0_0, .slice A0_1 l0_1.length c0_1], .agg #[.slice A1_0 l1_0.length c1_0, .slice A1_1 l1_1.length c1_1, .slice A1_2 l1_2.length c1_2], .slice A2 l2.length c2] w fun e w' => ∃ v0_ v1_ v2_ : Value, ∃ lo mid : Nat, e = .returned (.tuple #[.agg #[v0_, v1_, v2_], .int .i64 (cntA (dF F' F) N N)]) ∧ Rk3 w' w.heap.size lo mid v0_ v1_ v2_ l1_0 (mat N F') V' ∧ Below w.heap.size w w' := by
  have hu35 := Try.underlying35
  have hu37 := Try.underlying37
  have HR0 := Aside0.mk hr0_1; have HC0 := Aside0.mk hc0_1
  have HR1_0 := Aside0.mk hr1_0; have HC1_0 := Aside0.mk hc1_0
  have HR1_1 := Aside0.mk hr1_1; have HC1_1 := Aside0.mk hc1_1
  have HR1_2 := Aside0.mk hr1_2; have HC1_2 := Aside0.mk hc1_2
  have HR2 := Aside0.mk hr2; have HC2 := Aside0.mk hc2
  have HQ := Aside0.mk (XQ.start w)
  clear hr0_1 hc0_1 hr1_0 hc1_0 hr1_1 hc1_1 hr1_2 hc1_2 hr2 hc2
  have F1 := Aside0.mk h1
  have F2 := Aside0.mk h2
  have F3 := Aside0.mk h3
  have F4 := Aside0.mk h4
  have HN := Aside0.mk hN
  have HCM := Aside0.mk hc
  clear h1 h2 h3 h4 hN hc
  go_enter Try.func31, Try.ntmps31
  go_upto_region 3 with (first | ((with_reducible refine gate_dst (N := 3) rfl ?_); refine be (cs := #[.int .i64 a0_0, .slice A0_1 l0_1.length c0_1]) (t := 35) ?_; intro g3 hg w1 hbox hb; replace HQ := Aside0.mk (HQ.out.addB hg hbox hb); clear hb hbox hg) | ((with_reducible refine gate_dst (N := 4) rfl ?_); refine be (cs := #[.slice A1_0 l1_0.length c1_0, .slice A1_1 l1_1.length c1_1, .slice A1_2 l1_2.length c1_2]) (t := 37) ?_; intro g4 hg w2 hbox hb; replace HQ := Aside0.mk (HQ.out.addB hg hbox hb); clear hb hbox hg) | ((with_reducible refine gate_dst (N := 6) rfl ?_); refine be (cs := #[.slice none 0 0, .slice none 0 0, .slice none 0 0]) (t := 37) ?_; intro g6 hg w3 hbox hb; replace HQ := Aside0.mk (HQ.out.addB hg hbox hb); clear hb hbox hg; obtain ⟨hz3a, hz3b, hf3a, hf3b⟩ := bc2 (HQ.out.bx (List.Mem.tail _ (List.Mem.tail _ (List.Mem.head _)))); obtain ⟨hz4a, hz4b, hz4c, hf4a, hf4b, hf4c⟩ := bc3 (HQ.out.bx (List.Mem.tail _ (List.Mem.head _)))) | ((with_reducible refine gate_callee (f := 41) rfl ?_); refine goesL_ (some 16) rfl rfl Try.func41 (by kernel_rfl) rfl #[.agg #[.int .i64 a0_0, .slice A0_1 l0_1.length c0_1], .agg #[.slice A1_0 l1_0.length c1_0, .slice A1_1 l1_1.length c1_1, .slice A1_2 l1_2.length c1_2]] rfl ul ?_; refine (impl_RankOk.calls k a0_0 _ _ l0_1 _ _ l1_0 _ _ l1_1 _ _ l1_2 true _ (Kd.C_below HR0.out HQ.out.hB) HC0.out (Kd.C_below HR1_0.out HQ.out.hB) HC1_0.out (Kd.C_below HR1_1.out HQ.out.hB) HC1_1.out (Kd.C_below HR1_2.out HQ.out.hB) HC1_2.out F1.out).mono ?_; rintro e w4 ⟨rfl, hb⟩; refine ⟨_, rfl, ?_⟩; replace HQ := Aside0.mk (HQ.out.below hb); clear hb; clear hz3a hz3b hf3a hf3b hz4a hz4b hz4c hf4a hf4b hf4c; obtain ⟨hz3a, hz3b, hf3a, hf3b⟩ := bc2 (HQ.out.bx (List.Mem.tail _ (List.Mem.tail _ (List.Mem.head _))))) | (go_at_call 70; refine (impl_metricOk.calls a0_0 _ _ l0_1 _ _ l2 true _ (Kd.C_below HR0.out HQ.out.hB) HC0.out (Kd.C_below HR2.out HQ.out.hB) HC2.out F2.out).mono ?_; rintro e w5 ⟨rfl, hb⟩; replace HQ := Aside0.mk (HQ.out.below hb); clear hb; clear hz3a hz3b hf3a hf3b; skip))
  have hres : ∃ W_ : World, W_ = w5 := ⟨_, rfl⟩
  clear hres
  replace HQ := Aside0.mk HQ.out.drew
  have BX4 := HQ.out.bx (List.Mem.tail _ (List.Mem.head _))
  have BX3 := HQ.out.bx (List.Mem.tail _ (List.Mem.tail _ (List.Mem.head _)))
  refine start_ (n := 8) (S := fun w' => w'.cell? ⟨g4, 0, none⟩ = some (.slice A1_0 l1_0.length c1_0) ∧ w'.cell? ⟨g4, 1, none⟩ = some (.slice A1_1 l1_1.length c1_1) ∧ w'.cell? ⟨g4, 2, none⟩ = some (.slice A1_2 l1_2.length c1_2) ∧ w'.cell? ⟨g3, 0, none⟩ = some (.int .i64 a0_0) ∧ w'.cell? ⟨g3, 1, none⟩ = some (.slice A0_1 l0_1.length c0_1)) (ds := []) (zt 8 0) (by kernel_rfl) rfl (by kernel_rfl) ⟨(blk_cell BX4.out 0).trans rfl, (blk_cell BX4.out 1).trans rfl, (blk_cell BX4.out 2).trans rfl, (blk_cell BX3.out 0).trans rfl, (blk_cell BX3.out 1).trans rfl⟩ (fun hHeld => ?_)
  refine with_tabW cow3_tab cow3_bits (fun HT_ HW_ => ?_)
  generalize w5.drew = w6 at HQ BX4 BX3 hHeld ⊢
  refine qz HT_ 1 ?_
  refine qz HT_ 3 ?_
  refine qt HT_ HW_ hHeld 0 ?_
  refine qt HT_ HW_ hHeld 4 ?_
  refine join_ (σ := Value × Value × Value × Value × Nat × Nat × Nat × Nat × Nat) 1 (zt 8 127) (fun s_ => [(27, .agg #[.int .i64 a0_0, s_.1]), (30, .agg #[s_.2.1, s_.2.2.1, s_.2.2.2.1]), (8, .pointer (some ⟨s_.2.2.2.2.2.2.2.2, 0, none⟩))]) (fun s_ w' => (w'.cell? ⟨g4, 0, none⟩ = some (.slice A1_0 l1_0.length c1_0) ∧ w'.cell? ⟨g4, 1, none⟩ = some (.slice A1_1 l1_1.length c1_1) ∧ w'.cell? ⟨g4, 2, none⟩ = some (.slice A1_2 l1_2.length c1_2) ∧ w'.cell? ⟨g3, 0, none⟩ = some (.int .i64 a0_0) ∧ w'.cell? ⟨g3, 1, none⟩ = some (.slice A0_1 l0_1.length c0_1)) ∧ s_.2.2.2.2.2.1 ≤ s_.2.2.2.2.2.2.1 ∧ XQ w [.box s_.2.2.2.2.2.2.2.2 #[.slice none 0 0, .slice none 0 0, .slice none 0 0] 37, .row s_.2.2.2.2.1 s_.2.2.2.2.2.1 s_.2.1 l1_0, .tab s_.2.2.2.2.2.1 s_.2.2.2.2.2.2.1 s_.2.2.1 (mat N F'), .tab s_.2.2.2.2.2.2.1 s_.2.2.2.2.2.2.2.1 s_.2.2.2.1 V', .box g6 #[.slice none 0 0, .slice none 0 0, .slice none 0 0] 37, .box g4 #[.slice A1_0 l1_0.length c1_0, .slice A1_1 l1_1.length c1_1, .slice A1_2 l1_2.length c1_2] 37, .box g3 #[.int .i64 a0_0, .slice A0_1 l0_1.length c0_1] 35] w') ?_ ?_
  rotate_left
  · intro hCont
    refine two_ (i := 2) (j := 6) (Ni := some 27) (Nj := some 8) (zt 8 31) (zt 8 91) rfl rfl rfl rfl (two_of HT_.out (by kernel_rfl)) (by decide) (by decide) (fun K hK => ?_) (fun K hK => ?_)
    · refine goes_ Try.func72 (by kernel_rfl) rfl #[.agg #[.int .i64 a0_0, .slice A0_1 l0_1.length c0_1], .slice A2 l2.length c2] (by rfl) rfl rfl ul ?_
      refine (impl_Net_priced.calls kp a0_0 _ _ l0_1 _ _ l2 a0_0 lp _ (Kd.C_below HR0.out HQ.out.hB) HC0.out (Kd.C_below HR2.out HQ.out.hB) HC2.out F3.out).mono ?_
      rintro e w7 ⟨vn, rfl, ho, hb⟩
      refine ⟨_, rfl, ?_⟩
      obtain ⟨An, cn, en⟩ := Kd.R_slice ho
      subst en
      have HT1 := Aside0.mk (Kd.R_reads' ho).2
      replace HQ := Aside0.mk (HQ.out.below hb)
      clear hb ho
      clear BX4 BX3
      have BX4 := HQ.out.bx (List.Mem.tail _ (List.Mem.head _))
      have BX3 := HQ.out.bx (List.Mem.tail _ (List.Mem.tail _ (List.Mem.head _)))
      refine hK.out _ _ ⟨(blk_cell BX4.out 0).trans rfl, (blk_cell BX4.out 1).trans rfl, (blk_cell BX4.out 2).trans rfl, (blk_cell BX3.out 0).trans rfl, (blk_cell BX3.out 1).trans rfl⟩ (fun hHeld => ?_)
      clear hK K
      refine nz ?_
      refine two_ (i := 5) (j := 6) (Ni := some 30) (Nj := some 8) (zt 8 63) (zt 8 95) rfl rfl rfl rfl (two_of HT_.out (by kernel_rfl)) (by decide) (by decide) (fun K hK => ?_) (fun K hK => ?_)
      · refine goes_ Try.func71 (by kernel_rfl) rfl #[.agg #[.int .i64 a0_0, .slice An lp.length cn], .slice A1_0 l1_0.length c1_0] (by rfl) rfl rfl ul ?_
        refine (impl_rankOf.callsW a0_0 _ _ lp _ _ l1_0 l1_0 (mat N F') V' _ HT1.out.2 HT1.out.1 (Kd.C_below HR1_0.out HQ.out.hB) HC1_0.out F4.out).mono ?_
        rintro e w8 ⟨v0, v1, v2, lo, mid, rfl, h3, hb⟩
        refine ⟨_, rfl, ?_⟩
        obtain ⟨a_, b_, hab, hq⟩ := HQ.out.add3L hb h3
        have HAB := Aside0.mk hab
        replace HQ := Aside0.mk hq
        clear hb h3 hq hab
        clear BX4 BX3
        have BX4 := HQ.out.bx (List.Mem.tail _ (List.Mem.tail _ (List.Mem.tail _ (List.Mem.tail _ (List.Mem.head _)))))
        have BX3 := HQ.out.bx (List.Mem.tail _ (List.Mem.tail _ (List.Mem.tail _ (List.Mem.tail _ (List.Mem.tail _ (List.Mem.head _))))))
        refine hK.out _ _ ⟨(blk_cell BX4.out 0).trans rfl, (blk_cell BX4.out 1).trans rfl, (blk_cell BX4.out 2).trans rfl, (blk_cell BX3.out 0).trans rfl, (blk_cell BX3.out 1).trans rfl⟩ (fun hHeld => ?_)
        clear hK K
        refine nz ?_
        refine qo HT_ 6 (fun K hK => ?_)
        refine box_step ?hg (N := 8) ?hd (cs := #[.slice none 0 0, .slice none 0 0, .slice none 0 0]) (t := 37) ?hr ?_
        (case hd => rfl)
        (case hg => rfl)
        (case hr => first | (go_simp; done) | (go_simp; rfl))
        intro g8 hg w9 hbox hb
        replace HQ := Aside0.mk (HQ.out.addB hg hbox hb)
        clear hb hbox hg BX4 BX3
        have BX4 := HQ.out.bx (List.Mem.tail _ (List.Mem.tail _ (List.Mem.tail _ (List.Mem.tail _ (List.Mem.tail _ (List.Mem.head _))))))
        have BX3 := HQ.out.bx (List.Mem.tail _ (List.Mem.tail _ (List.Mem.tail _ (List.Mem.tail _ (List.Mem.tail _ (List.Mem.tail _ (List.Mem.head _)))))))
        refine hK.out _ _ ⟨(blk_cell BX4.out 0).trans rfl, (blk_cell BX4.out 1).trans rfl, (blk_cell BX4.out 2).trans rfl, (blk_cell BX3.out 0).trans rfl, (blk_cell BX3.out 1).trans rfl⟩ (fun hHeld => ?_)
        clear hK K
        refine nz ?_
        exact norm_ (by simp only [putAll, Act.put, List.setIfInBounds_toArray, List.set_cons_zero, List.set_cons_succ]) (hCont (.slice An lp.length cn, v0, v1, v2, _, _, _, _, g8) _ ⟨hHeld, HAB.out, HQ.out⟩)
      · refine box_step ?hg (N := 8) ?hd (cs := #[.slice none 0 0, .slice none 0 0, .slice none 0 0]) (t := 37) ?hr ?_
        (case hd => rfl)
        (case hg => rfl)
        (case hr => first | (go_simp; done) | (go_simp; rfl))
        intro g8 hg w8 hbox hb
        replace HT1 := Aside0.mk (And.intro HT1.out.1 (Kd.C_below HT1.out.2 hb))
        replace HQ := Aside0.mk (HQ.out.addB hg hbox hb)
        clear hb hbox hg BX4 BX3
        have BX4 := HQ.out.bx (List.Mem.tail _ (List.Mem.tail _ (List.Mem.head _)))
        have BX3 := HQ.out.bx (List.Mem.tail _ (List.Mem.tail _ (List.Mem.tail _ (List.Mem.head _))))
        refine hK.out _ _ ⟨(blk_cell BX4.out 0).trans rfl, (blk_cell BX4.out 1).trans rfl, (blk_cell BX4.out 2).trans rfl, (blk_cell BX3.out 0).trans rfl, (blk_cell BX3.out 1).trans rfl⟩ (fun hHeld => ?_)
        clear hK K
        refine nz ?_
        refine qo HT_ 5 (fun K hK => ?_)
        refine goes_ Try.func71 (by kernel_rfl) rfl #[.agg #[.int .i64 a0_0, .slice An lp.length cn], .slice A1_0 l1_0.length c1_0] (by rfl) rfl rfl ul ?_
        refine (impl_rankOf.callsW a0_0 _ _ lp _ _ l1_0 l1_0 (mat N F') V' _ HT1.out.2 HT1.out.1 (Kd.C_below HR1_0.out HQ.out.hB) HC1_0.out F4.out).mono ?_
        rintro e w9 ⟨v0, v1, v2, lo, mid, rfl, h3, hb⟩
        refine ⟨_, rfl, ?_⟩
        obtain ⟨a_, b_, hab, hq⟩ := HQ.out.add3L hb h3
        have HAB := Aside0.mk hab
        replace HQ := Aside0.mk hq
        clear hb h3 hq hab
        clear BX4 BX3
        have BX4 := HQ.out.bx (List.Mem.tail _ (List.Mem.tail _ (List.Mem.tail _ (List.Mem.tail _ (List.Mem.tail _ (List.Mem.head _))))))
        have BX3 := HQ.out.bx (List.Mem.tail _ (List.Mem.tail _ (List.Mem.tail _ (List.Mem.tail _ (List.Mem.tail _ (List.Mem.tail _ (List.Mem.head _)))))))
        refine hK.out _ _ ⟨(blk_cell BX4.out 0).trans rfl, (blk_cell BX4.out 1).trans rfl, (blk_cell BX4.out 2).trans rfl, (blk_cell BX3.out 0).trans rfl, (blk_cell BX3.out 1).trans rfl⟩ (fun hHeld => ?_)
        clear hK K
        refine nz ?_
        replace HQ := Aside0.mk (XQ.front [_, _, _] HQ.out)
        simp only [List.cons_append, List.nil_append] at HQ
        exact norm_ (by simp only [putAll, Act.put, List.setIfInBounds_toArray, List.set_cons_zero, List.set_cons_succ]) (hCont (.slice An lp.length cn, v0, v1, v2, _, _, _, _, g8) _ ⟨hHeld, HAB.out, HQ.out⟩)
    · refine box_step ?hg (N := 8) ?hd (cs := #[.slice none 0 0, .slice none 0 0, .slice none 0 0]) (t := 37) ?hr ?_
      (case hd => rfl)
      (case hg => rfl)
      (case hr => first | (go_simp; done) | (go_simp; rfl))
      intro g8 hg w7 hbox hb
      replace HQ := Aside0.mk (HQ.out.addB hg hbox hb)
      clear hb hbox hg BX4 BX3
      have BX4 := HQ.out.bx (List.Mem.tail _ (List.Mem.tail _ (List.Mem.head _)))
      have BX3 := HQ.out.bx (List.Mem.tail _ (List.Mem.tail _ (List.Mem.tail _ (List.Mem.head _))))
      refine hK.out _ _ ⟨(blk_cell BX4.out 0).trans rfl, (blk_cell BX4.out 1).trans rfl, (blk_cell BX4.out 2).trans rfl, (blk_cell BX3.out 0).trans rfl, (blk_cell BX3.out 1).trans rfl⟩ (fun hHeld => ?_)
      clear hK K
      refine nz ?_
      refine qo HT_ 2 (fun K hK => ?_)
      refine goes_ Try.func72 (by kernel_rfl) rfl #[.agg #[.int .i64 a0_0, .slice A0_1 l0_1.length c0_1], .slice A2 l2.length c2] (by rfl) rfl rfl ul ?_
      refine (impl_Net_priced.calls kp a0_0 _ _ l0_1 _ _ l2 a0_0 lp _ (Kd.C_below HR0.out HQ.out.hB) HC0.out (Kd.C_below HR2.out HQ.out.hB) HC2.out F3.out).mono ?_
      rintro e w8 ⟨vn, rfl, ho, hb⟩
      refine ⟨_, rfl, ?_⟩
      obtain ⟨An, cn, en⟩ := Kd.R_slice ho
      subst en
      have HT1 := Aside0.mk (Kd.R_reads' ho).2
      replace HQ := Aside0.mk (HQ.out.below hb)
      clear hb ho
      clear BX4 BX3
      have BX4 := HQ.out.bx (List.Mem.tail _ (List.Mem.tail _ (List.Mem.head _)))
      have BX3 := HQ.out.bx (List.Mem.tail _ (List.Mem.tail _ (List.Mem.tail _ (List.Mem.head _))))
      refine hK.out _ _ ⟨(blk_cell BX4.out 0).trans rfl, (blk_cell BX4.out 1).trans rfl, (blk_cell BX4.out 2).trans rfl, (blk_cell BX3.out 0).trans rfl, (blk_cell BX3.out 1).trans rfl⟩ (fun hHeld => ?_)
      clear hK K
      refine nz ?_
      refine qo HT_ 5 (fun K hK => ?_)
      refine goes_ Try.func71 (by kernel_rfl) rfl #[.agg #[.int .i64 a0_0, .slice An lp.length cn], .slice A1_0 l1_0.length c1_0] (by rfl) rfl rfl ul ?_
      refine (impl_rankOf.callsW a0_0 _ _ lp _ _ l1_0 l1_0 (mat N F') V' _ HT1.out.2 HT1.out.1 (Kd.C_below HR1_0.out HQ.out.hB) HC1_0.out F4.out).mono ?_
      rintro e w9 ⟨v0, v1, v2, lo, mid, rfl, h3, hb⟩
      refine ⟨_, rfl, ?_⟩
      obtain ⟨a_, b_, hab, hq⟩ := HQ.out.add3L hb h3
      have HAB := Aside0.mk hab
      replace HQ := Aside0.mk hq
      clear hb h3 hq hab
      clear BX4 BX3
      have BX4 := HQ.out.bx (List.Mem.tail _ (List.Mem.tail _ (List.Mem.tail _ (List.Mem.tail _ (List.Mem.tail _ (List.Mem.head _))))))
      have BX3 := HQ.out.bx (List.Mem.tail _ (List.Mem.tail _ (List.Mem.tail _ (List.Mem.tail _ (List.Mem.tail _ (List.Mem.tail _ (List.Mem.head _)))))))
      refine hK.out _ _ ⟨(blk_cell BX4.out 0).trans rfl, (blk_cell BX4.out 1).trans rfl, (blk_cell BX4.out 2).trans rfl, (blk_cell BX3.out 0).trans rfl, (blk_cell BX3.out 1).trans rfl⟩ (fun hHeld => ?_)
      clear hK K
      refine nz ?_
      replace HQ := Aside0.mk (XQ.front [_, _, _] HQ.out)
      simp only [List.cons_append, List.nil_append] at HQ
      exact norm_ (by simp only [putAll, Act.put, List.setIfInBounds_toArray, List.set_cons_zero, List.set_cons_succ]) (hCont (.slice An lp.length cn, v0, v1, v2, _, _, _, _, g8) _ ⟨hHeld, HAB.out, HQ.out⟩)
  rintro ⟨vn, v0, v1, v2, s0, s1, s2, s3, g8⟩ w10 ⟨hHeld, hab, hq⟩
  clear HQ BX4 BX3
  have HQ := Aside0.mk hq
  clear hq
  dsimp only at HQ hab
  have HAB := Aside0.mk hab
  clear hab
  obtain ⟨Ax, cx, e0⟩ := Kd.R_slice (HQ.out.rw_ (List.Mem.tail _ (List.Mem.head _)))
  subst e0
  obtain ⟨Ay, cy, e0⟩ := Kd.S_slice (HQ.out.tb (List.Mem.tail _ (List.Mem.tail _ (List.Mem.head _))))
  subst e0
  obtain ⟨Az, cz, e0⟩ := Kd.S_slice (HQ.out.tb (List.Mem.tail _ (List.Mem.tail _ (List.Mem.tail _ (List.Mem.head _)))))
  subst e0
  refine norm_ (a' := ?_) ?_ ?_
  rotate_left
  · simp only [putAll, Act.put, List.setIfInBounds_toArray, List.set_cons_zero, List.set_cons_succ]; rfl
  refine qo HT_ 7 (fun K hK => ?_)
  obtain ⟨hz8a, hz8b, hz8c, hf8a, hf8b, hf8c⟩ := bc3 (HQ.out.bx (List.Mem.head _))
  refine skip_ (w1 := (((w10.setCell ⟨g8, 0, none⟩ (.slice Ax l1_0.length cx)).setCell ⟨g8, 1, none⟩ (.slice Ay (mat N F').length cy)).setCell ⟨g8, 2, none⟩ (.slice Az V'.length cz))) (by rfl) rfl (by first | (go_simp; done) | (go_simp; rfl)) ?_
  clear hz8a hz8b hz8c hf8a hf8b hf8c
  have HQ2 := Aside0.mk (HQ.out.set3 (.slice Ax l1_0.length cx) (.slice Ay (mat N F').length cy) (.slice Az V'.length cz))
  clear HQ hHeld
  have HQ := HQ2
  clear HQ2
  have BX4 := HQ.out.bx (List.Mem.tail _ (List.Mem.tail _ (List.Mem.tail _ (List.Mem.tail _ (List.Mem.tail _ (List.Mem.head _))))))
  have BX3 := HQ.out.bx (List.Mem.tail _ (List.Mem.tail _ (List.Mem.tail _ (List.Mem.tail _ (List.Mem.tail _ (List.Mem.tail _ (List.Mem.head _)))))))
  refine hK.out _ _ ⟨(blk_cell BX4.out 0).trans rfl, (blk_cell BX4.out 1).trans rfl, (blk_cell BX4.out 2).trans rfl, (blk_cell BX3.out 0).trans rfl, (blk_cell BX3.out 1).trans rfl⟩ (fun hHeld => ?_)
  clear hK K
  refine done_ (done_of HT_.out (by kernel_rfl)) ?_
  clear HT_ HW_ hHeld BX4 BX3
  generalize (((w10.setCell ⟨g8, 0, none⟩ (.slice Ax l1_0.length cx)).setCell ⟨g8, 1, none⟩ (.slice Ay (mat N F').length cy)).setCell ⟨g8, 2, none⟩ (.slice Az V'.length cz)) = w11 at HQ ⊢
  have HCR := Aside0.mk (Kd.S_reads' (HQ.out.tb (List.Mem.tail _ (List.Mem.tail _ (List.Mem.head _))))).2.2
  have hcm := HCM.out
  subst hcm
  have HCL := Aside0.mk (Kd.C_below HR1_1.out HQ.out.hB)
  rw [mat_len] at HCR HCL
  obtain ⟨hz8a, hz8b, hz8c, hf8a, hf8b, hf8c⟩ := bc3 (HQ.out.bx (List.Mem.head _)); obtain ⟨hz4a, hz4b, hz4c, hf4a, hf4b, hf4c⟩ := bc3 (HQ.out.bx (List.Mem.tail _ (List.Mem.tail _ (List.Mem.tail _ (List.Mem.tail _ (List.Mem.tail _ (List.Mem.head _)))))))
  rw [mat_len] at hz8b hz4b
  clear hHeld HCM F1 F2 F3 F4 HR0 HR1_0 HR1_1 HR1_2 HR2 HC0 HC1_0 HC1_1 HC1_2 HC2
  go_upto_region 5 with (fail)
  go_wp2
  go_loopg [9, 34] N (fun gg s9 s34 wr => ∃ i : Nat, s34 = .int .i64 (i : Int) ∧ s9 = .int .i64 (cntA (dF F' F) N i) ∧ i ≤ N ∧ N - i ≤ gg ∧ w11 = wr)
  case atStart => exact ⟨0, rfl, rfl, Nat.zero_le _, Nat.le_refl _, rfl⟩
  case round =>
    obtain ⟨i, rfl, rfl, hin, hgi, rfl⟩ := hrel
    by_cases hi : i < N
    · have hiz := dl (iz3 hi)
      obtain ⟨adx, Bx, dx, ea, hx, hl, hix⟩ := at_L5 (by rw [mat_len]; exact HCR.out : Kd.C (Kd.slice 3 (Kd.int .i64)) w11 Ay (mat N F').length (mat N F')) (i : Int) (iz4 i) (by rw [mat_len]; exact iz3 hi)
      subst ea
      obtain ⟨ady, By, dy, ea, hy, hl2, hiy⟩ := at_L5 (by rw [mat_len]; exact HCL.out : Kd.C (Kd.slice 3 (Kd.int .i64)) w11 A1_1 (mat N F).length (mat N F)) (i : Int) (iz4 i) (by rw [mat_len]; exact iz3 hi)
      subst ea
      rw [rd_mat F' (iz4 i) (iz3 hi)] at hix hx
      rw [rd_mat F (iz4 i) (iz3 hi)] at hiy hy
      rw [rowF_len] at hx hy
      simp only [Int.toNat_natCast] at hx hy
      have p1 := eq_true (iz4 i)
      have p2 := eq_true (iz3 hi)
      have HI := Aside0.mk hi; have HGI := Aside0.mk hgi; have HIX := Aside0.mk hix; have HIY := Aside0.mk hiy
      have hwi := iz7 hi HN.out
      have HWI := Aside0.mk hwi
      have HA := Aside0.mk (cntA_le (dF F' F) N HN.out i)
      clear hi hgi hin hix hiy hl hl2 hwi
      go_wp2
      go_loopg [9, 12, 13, 41] N (fun gg s9 s12 s13 s41 wr => ∃ j : Nat, s41 = .int .i64 (j : Int) ∧ s9 = .int .i64 (cntA (dF F' F) N i + cntR (dF F' F) (i : Int) j) ∧ j ≤ N ∧ N - j ≤ gg ∧ w11 = wr)
      case atStart => exact ⟨0, rfl, by simp [cntR], Nat.zero_le _, Nat.le_refl _, rfl⟩
      case round =>
        obtain ⟨j, rfl, rfl, hjn, hgj, rfl⟩ := hrel
        by_cases hj : j < N
        · have hjz := dl (iz3 hj)
          obtain ⟨ad1, e1, h1⟩ := Kd.at_int HIX.out (j : Int) (iz4 j) (by rw [rowF_len]; exact iz3 hj)
          subst e1
          obtain ⟨ad2, e2, h2⟩ := Kd.at_int HIY.out (j : Int) (iz4 j) (by rw [rowF_len]; exact iz3 hj)
          subst e2
          rw [rd_rowF _ (iz4 j) (iz3 hj)] at h1 h2
          simp only [Int.toNat_natCast] at h1 h2
          have q1 := eq_true (iz4 j)
          have q2 := eq_true (iz3 hj)
          have HJ := Aside0.mk hj; have HGJ := Aside0.mk hgj
          have HR9 := Aside0.mk (cntR_le (dF F' F) (i : Int) j)
          have hwj := iz7 hj HN.out
          have HWJ := Aside0.mk hwj
          have hwc : wrap64 (cntA (dF F' F) N i + cntR (dF F' F) (i : Int) j + 1) = cntA (dF F' F) N i + cntR (dF F' F) (i : Int) j + 1 := by
            have a1 := HA.out; have a2 := HR9.out; have a3 := HN.out; have a4 := HI.out
            unfold wrap64; omega
          have HWC := Aside0.mk hwc
          clear hj hgj hjn hwj hwc
          by_cases hc : F' (i : Int) (j : Int) = F (i : Int) (j : Int)
          · have HSM := Aside0.mk (cntR_same hc)
            obtain ⟨hc1, hc2⟩ := dq hc
            clear hc
            go_wp2
            go_roundg (N - j - 1)
            case measure => exact Nat.lt_of_lt_of_le (iz9 HJ.out) HGJ.out
            case rel => exact ⟨j + 1, congrArg (Value.int .i64) HWJ.out, by rw [HSM.out], HJ.out, Nat.le_refl _, rfl⟩
          · have HSM := Aside0.mk (cntR_other hc)
            obtain ⟨hc1, hc2⟩ := dQ hc
            clear hc
            go_wp2
            go_roundg (N - j - 1)
            case measure => exact Nat.lt_of_lt_of_le (iz9 HJ.out) HGJ.out
            case rel => exact ⟨j + 1, congrArg (Value.int .i64) HWJ.out, congrArg (Value.int .i64) (by rw [HSM.out]; exact HWC.out.trans (Int.add_assoc _ _ _)), HJ.out, Nat.le_refl _, rfl⟩
        · have hjz := DL (iz5 hj)
          have ej := iz6 hj hjn
          subst ej
          clear hj hjn hgj
          go_wp2
          go_roundg (j - i - 1)
          case measure => exact Nat.lt_of_lt_of_le (iz9 HI.out) HGI.out
          case rel => exact ⟨i + 1, congrArg (Value.int .i64) HWI.out, rfl, HI.out, Nat.le_refl _, rfl⟩
    · have hiz := DL (iz5 hi)
      have ei := iz6 hi hin
      subst ei
      clear hi hin hgi
      have BK6 := HQ.out.bx (List.Mem.tail _ (List.Mem.tail _ (List.Mem.tail _ (List.Mem.tail _ (List.Mem.head _)))))
      obtain ⟨hy0, hy1, hy2, he0, he1, he2⟩ := bc3 BK6
      go_wp2
      refine bodyPost_ret (results_ct rfl _ _ g6 37 #[.slice Ax l1_0.length cx, .slice Ay i cy, .slice Az V'.length cz] (0, 0) _ rfl (pu3 _ _ _ BK6.out) Try.underlying37 rfl (by kernel_rfl)) rfl ?_
      have t0 := HQ.out.rw_ (List.Mem.tail _ (List.Mem.head _))
      have t1 := HQ.out.tb (List.Mem.tail _ (List.Mem.tail _ (List.Mem.head _)))
      have t2 := HQ.out.tb (List.Mem.tail _ (List.Mem.tail _ (List.Mem.tail _ (List.Mem.head _))))
      rw [mat_len] at t1
      refine ⟨_, _, _, s1, s2, rfl, Rk3.set ⟨HAB.out, Kd.R_mono t0 (fun k hk => hk.2), t1, Kd.S_mono t2 (fun k hk => hk.1)⟩ BK6.out _ _ _, ?_⟩
      have hg6 := (HQ.out.hO _ (List.Mem.tail _ (List.Mem.tail _ (List.Mem.tail _ (List.Mem.tail _ (List.Mem.head _)))))).1
      exact below_set (below_set (below_set HQ.out.hB hg6) hg6) hg6
end Go.Proofs.Ytdlaaccnaokdnaa.P
