/- Contract: impl.RankNear, by hand: up from both ends, and where these meet. -/
import Derived.Test.YtdlaaccnaokdnaaHClimb
import Derived.Test.YtdlaaccnaokdnaaHGuard
import Derived.Test.YtdlaaccnaokdnaaPFImplRankok
set_option linter.unusedVariables false
set_option linter.unusedSimpArgs false
namespace Go.Proofs.Ytdlaaccnaokdnaa.P
open Go.RowKit Go.Proofs.Ytdlaaccnaokdnaa.M Go.Proofs.YtdlaaccnaokdnaaV.PrintWords Go.Proofs.YtdlaaccnaokdnaaV.PrintLast Go.Proofs.YtdlaaccnaokdnaaV.PrintMore
def nr9_T : Bool × List (List Nat × List Nat) := (true, [([], []), ([], []), ([0, 1], [0, 1]), ([2], [2]), ([3], [3]), ([4], [4]), ([5], [5]), ([5], [5]), ([6, 7, 5], [5, 6, 7]), ([8, 5], [5, 8]), ([9, 5], [5, 9]), ([5, 10], [5, 10]), ([11, 5], [11]), ([12], [12]), ([12], [12]), ([13, 14, 12], [12, 13, 14]), ([15, 12], [12, 15]), ([12], [12]), ([12], [12]), ([17, 18, 12], [12, 17, 18]), ([19, 12], [12, 19]), ([16, 20, 12], [12, 16, 20]), ([12], [12]), ([21, 22, 12], [12, 21, 22]), ([12, 23], [12, 23])])
def nr9_B : List Nat := [0, 0, 3, 7, 15, 31, 63, 63, 255, 511, 1023, 2047, 4095, 8191, 8191, 32767, 65535, 8191, 8191, 401407, 925695, 2097151, 8191, 8388607, 16777215]
theorem nr9_tab : rtab .any (opsOf Try.f19 9) = nr9_T := by kernel_rfl
theorem nr9_bits : waitsOk nr9_T.2 nr9_B = true := by kernel_rfl
def nr10_T : Bool × List (List Nat × List Nat) := (true, [([], []), ([], []), ([0, 1], [0, 1]), ([2], [2]), ([], []), ([], []), ([4, 5], [4, 5]), ([6], [6]), ([3, 7], [3, 7]), ([], []), ([8, 0, 1, 2, 3, 4, 5, 6, 7, 8], [8]), ([9, 10, 0, 1, 2, 3, 4, 5, 6, 7, 8, 9, 10], [9])])
def nr10_B : List Nat := [0, 0, 3, 7, 0, 0, 48, 112, 255, 0, 511, 2047]
theorem nr10_tab : rtab .any (opsOf Try.f19 10) = nr10_T := by kernel_rfl
theorem nr10_bits : waitsOk nr10_T.2 nr10_B = true := by kernel_rfl
theorem impl_rkok {k : Nat} {n : Int} {l : List S61} {o : List Int} {c v : List (List Int)} (h : impl_RankOk.f k n l o c v = some true) : netOkB n l = true ∧ Ord o n ∧ c = mat n.toNat (rkAll o (arcS l)).1 := by
  have hj : ∀ x, impl_RankOk.j0 k x n l o c v = some true → x = false ∧ ∃ t, impl_rankOf.f n l o = some t ∧ ∃ b, impl_sameGrid.f c t.2.1 = some b ∧ b = true := by
    intro x hx
    cases k with
    | zero => simp [impl_RankOk.j0] at hx
    | succ k =>
      simp only [impl_RankOk.j0] at hx
      by_cases hb : x = true
      · rw [if_pos hb] at hx; simp at hx
      · rw [if_neg hb] at hx
        obtain ⟨t, h1, h2⟩ := Option.bind_eq_some_iff.1 hx
        obtain ⟨b, h3, h4⟩ := Option.bind_eq_some_iff.1 h2
        refine ⟨by simpa using hb, t, h1, b, h3, ?_⟩
        by_cases hbb : b = true
        · exact hbb
        · rw [if_neg hbb] at h4; simp at h4
  unfold impl_RankOk.f at h
  obtain ⟨t103, h1, h2⟩ := Option.bind_eq_some_iff.1 h
  by_cases ht : t103 = true
  rotate_left
  · rw [if_neg ht] at h2
    exact absurd (hj _ h2).1 (by decide)
  rw [if_pos ht] at h2
  obtain ⟨t104, h3, h4⟩ := Option.bind_eq_some_iff.1 h2
  obtain ⟨_, t, h5, b, h6, h7⟩ := hj _ h4
  unfold impl_NetOk.f at h1
  have e1 := Option.some.inj h1
  unfold impl_rankOf.f rkF at h5
  by_cases hk : netOkB n l = true ∧ Ord o n
  rotate_left
  · rw [if_neg hk] at h5; cases h5
  rw [if_pos hk] at h5
  have e5 := Option.some.inj h5
  subst e5
  unfold impl_sameGrid.f at h6
  refine ⟨hk.1, hk.2, ?_⟩
  by_cases hg : c.length ≤ 4611686018427387904 ∧ rowsB c = true
  · rw [if_pos hg] at h6
    have e6 := Option.some.inj h6
    rw [h7] at e6
    exact of_decide_eq_true e6
  · rw [if_neg hg] at h6; cases h6
theorem rkAll_bx {n : Int} {l : List S61} (h : netOkB n l = true) (o : List Int) : ∀ a b : Int, 0 ≤ (rkAll o (arcS l)).1 a b ∧ (rkAll o (arcS l)).1 a b ≤ 99999 := rkAll_box o (arcG_box h)
def impl_RankNear.f (k : Nat) (a0_0 : Int) (l0_1 : List S61) (l1_0 : List Int) (l1_1 l1_2 : List (List Int)) (a2 a3 : Int) : Option (Int × Int) :=
  (impl_RankOk.f k a0_0 l0_1 l1_0 l1_1 l1_2).bind fun t => if t = true then (if (inB a0_0 a2 && (inB a0_0 a3 && true)) = true then some (near (rkAll l1_0 (arcS l0_1)).1 l1_0 a2 a3) else some (-1, -1)) else some (-1, -1)
set_option maxHeartbeats 2000000 in
theorem clo58 (C : Int → Int → Int) (n : Nat) (g5 : Nat) (v0 v2 : Value) (A1 : Option Addr) (c1 : Nat) (W : World) (hb : W.heap[g5]? = some (.cells #[v0, .slice A1 n c1, v2] 37 (0, 0))) (hC : Kd.C (Kd.slice 3 (Kd.int .i64)) W A1 n (mat n C)) (a b : Int) (a0 : 0 ≤ a) (a1 : a < n) (b0 : 0 ≤ b) (b1 : b < n) :
    Calls Try.prog 58 #[.int .i64 a, .int .i64 b, .pointer (some ⟨g5, 0, none⟩)] W fun e w' => e = .returned (.int .i64 (C a b)) ∧ w' = W := by
  have hu37 := Try.underlying37
  obtain ⟨ad, A, c, ea, hx, hl, hi⟩ := at_L5 hC a a0 a1
  subst ea
  rw [mat_row_len C a0 a1, rd_mat C a0 a1] at hi
  rw [mat_row_len C a0 a1] at hx
  obtain ⟨ad2, ea2, hx2⟩ := Kd.at_int hi b b0 b1
  subst ea2
  rw [rd_rowF _ b0 b1] at hx2
  obtain ⟨hz0, hz1, hz2, hf0, hf1, hf2⟩ := bc3 (Aside0.mk hb)
  have p0 := eq_true a0; have p1 := eq_true a1; have p2 := eq_true b0; have p3 := eq_true b1
  clear hi hl hC hb
  go_enter Try.func58, Try.ntmps58
  go_wp2
  go_ret
  exact ⟨rfl, rfl⟩
set_option maxHeartbeats 2000000 in
theorem clo59 (C : Int → Int → Int) (n : Nat) (g5 : Nat) (v0 v2 : Value) (A1 : Option Addr) (c1 : Nat) (W : World) (hb : W.heap[g5]? = some (.cells #[v0, .slice A1 n c1, v2] 37 (0, 0))) (hC : Kd.C (Kd.slice 3 (Kd.int .i64)) W A1 n (mat n C)) (a b : Int) (a0 : 0 ≤ a) (a1 : a < n) (b0 : 0 ≤ b) (b1 : b < n) :
    Calls Try.prog 59 #[.int .i64 a, .int .i64 b, .pointer (some ⟨g5, 0, none⟩)] W fun e w' => e = .returned (.int .i64 (trp C a b)) ∧ w' = W := by
  have hu37 := Try.underlying37
  obtain ⟨ad, A, c, ea, hx, hl, hi⟩ := at_L5 hC b b0 b1
  subst ea
  rw [mat_row_len C b0 b1, rd_mat C b0 b1] at hi
  rw [mat_row_len C b0 b1] at hx
  obtain ⟨ad2, ea2, hx2⟩ := Kd.at_int hi a a0 a1
  subst ea2
  rw [rd_rowF _ a0 a1] at hx2
  obtain ⟨hz0, hz1, hz2, hf0, hf1, hf2⟩ := bc3 (Aside0.mk hb)
  have p0 := eq_true a0; have p1 := eq_true a1; have p2 := eq_true b0; have p3 := eq_true b1
  clear hi hl hC hb
  go_enter Try.func59, Try.ntmps59
  go_wp2
  go_ret
  exact ⟨rfl, rfl⟩
set_option maxHeartbeats 8000000 in
set_option maxRecDepth 100000 in
theorem impl_RankNear.calls (k : Nat) (a0_0 : Int) (A0_1 : Option Addr) (c0_1 : Nat) (l0_1 : List (S61)) (A1_0 : Option Addr) (c1_0 : Nat) (l1_0 : List Int) (A1_1 : Option Addr) (c1_1 : Nat) (l1_1 : List (List Int)) (A1_2 : Option Addr) (c1_2 : Nat) (l1_2 : List (List Int)) (a2 : Int) (a3 : Int) (r1 r2 : Int) (w : World) (hr0_1 : Kd.C k61 w A0_1 l0_1.length l0_1) (hc0_1 : l0_1.length ≤ c0_1) (hr1_0 : Kd.C (Kd.int .i64) w A1_0 l1_0.length l1_0) (hc1_0 : l1_0.length ≤ c1_0) (hr1_1 : Kd.C (Kd.slice 3 (Kd.int .i64)) w A1_1 l1_1.length l1_1) (hc1_1 : l1_1.length ≤ c1_1) (hr1_2 : Kd.C (Kd.slice 3 (Kd.int .i64)) w A1_2 l1_2.length l1_2) (hc1_2 : l1_2.length ≤ c1_2) (h : impl_RankNear.f k a0_0 l0_1 l1_0 l1_1 l1_2 a2 a3 = some (r1, r2)) :
    Calls Try.prog 19 #[.agg #[.int .i64 a0_0, .slice A0_1 l0_1.length c0_1], .agg #[.slice A1_0 l1_0.length c1_0, .slice A1_1 l1_1.length c1_1, .slice A1_2 l1_2.length c1_2], .int .i64 a2, .int .i64 a3] w fun e w' => e = .returned (.tuple #[.int .i64 r1, .int .i64 r2]) ∧ Below w.heap.size w w' := by
  have hu35 := Try.underlying35
  have hu37 := Try.underlying37
  have HR0_1 := Aside0.mk hr0_1
  have HC0_1 := Aside0.mk hc0_1
  have HR1_0 := Aside0.mk hr1_0
  have HC1_0 := Aside0.mk hc1_0
  have HR1_1 := Aside0.mk hr1_1
  have HC1_1 := Aside0.mk hc1_1
  have HR1_2 := Aside0.mk hr1_2
  have HC1_2 := Aside0.mk hc1_2
  clear hr0_1 hc0_1 hr1_0 hc1_0 hr1_1 hc1_1 hr1_2 hc1_2
  have HB := Aside0.mk (Below.refl w.heap.size w)
  unfold impl_RankNear.f at h
  obtain ⟨t103, h8, h⟩ := Option.bind_eq_some_iff.1 h
  have A8 := Aside0.mk h8
  have H := Aside0.mk h
  clear h8 h
  obtain ⟨y104, hy104⟩ : ∃ y : List Int, y = [a2, a3] := ⟨_, rfl⟩
  have NY := Aside0.mk hy104
  have h10 : impl_Net_has.f a0_0 l0_1 y104 = some (inB a0_0 a2 && (inB a0_0 a3 && true)) := by rw [hy104]; rfl
  clear hy104
  obtain ⟨t107, ht107⟩ : ∃ t, (inB a0_0 a2 && (inB a0_0 a3 && true)) = t := ⟨_, rfl⟩
  rw [ht107] at h10
  have A10 := Aside0.mk h10
  have HT := Aside0.mk ht107
  clear h10 ht107
  go_enter Try.func19, Try.ntmps19
  go_upto_region 1 with (first | ((with_reducible refine gate_dst (N := 4) rfl ?_); refine be (cs := #[.int .i64 a0_0, .slice A0_1 l0_1.length c0_1]) (t := 35) ?_; intro gb4 hg w6 hbox hb; have BK4 := Aside0.mk (hbox); have GE4 := gz w hg (uB0 HB); replace HB := Aside0.mk (below_step (uB0 HB) hb); clear hb hbox hg) | ((with_reducible refine gate_dst (N := 5) rfl ?_); refine be (cs := #[.slice A1_0 l1_0.length c1_0, .slice A1_1 l1_1.length c1_1, .slice A1_2 l1_2.length c1_2]) (t := 37) ?_; intro gb5 hg w7 hbox hb; have BK5 := Aside0.mk (hbox); replace HB := Aside0.mk (below_step (uB1 HB GE4.out) hb); replace BK4 := bb BK4 hb; clear hb hbox hg))
  obtain ⟨hcz0, hcz1, hfz0, hfz1⟩ := bc2 BK4
  obtain ⟨hdz0, hdz1, hdz2, hez0, hez1, hez2⟩ := bc3 BK5
  cases t103 with
  | false =>
    have hres := H.out
    simp only [Bool.false_eq_true, if_false] at hres
    have e := Option.some.inj hres
    injection e with e1 e2
    subst e1; subst e2
    go_wp2_with (((with_reducible refine gate_callee (f := 41) rfl ?_); refine goesL_ (some 18) rfl rfl Try.func41 (by kernel_rfl) rfl #[.agg #[.int .i64 a0_0, .slice A0_1 l0_1.length c0_1], .agg #[.slice A1_0 l1_0.length c1_0, .slice A1_1 l1_1.length c1_1, .slice A1_2 l1_2.length c1_2]] rfl ul ?_; (with_reducible refine (impl_RankOk.calls k a0_0 _ _ l0_1 _ _ l1_0 _ _ l1_1 _ _ l1_2 false _ ?side1 ?side2 ?side3 ?side4 ?side5 ?side6 ?side7 ?side8 A8.out).mono ?_); (case side1 => exact uC HR0_1 HB); (case side2 => exact HC0_1.out); (case side3 => exact uC HR1_0 HB); (case side4 => exact HC1_0.out); (case side5 => exact uC HR1_1 HB); (case side6 => exact HC1_1.out); (case side7 => exact uC HR1_2 HB); (case side8 => exact HC1_2.out); rintro e w19 ⟨rfl, hb⟩; refine ⟨_, rfl, ?_⟩; replace BK4 := bb BK4 hb; replace BK5 := bb BK5 hb; replace HB := Aside0.mk (below_step HB.out hb); clear hb hcz0 hcz1 hfz0 hfz1 hdz0 hdz1 hdz2 hez0 hez1 hez2; obtain ⟨hcz0, hcz1, hfz0, hfz1⟩ := bc2 BK4))
    go_ret2
    exact ⟨rfl, HB.out⟩
  | true =>
    cases t107 with
    | false =>
      have hres := H.out
      simp only [eq_self, if_true, HT.out, Bool.false_eq_true, if_false] at hres
      have e := Option.some.inj hres
      injection e with e1 e2
      subst e1; subst e2
      go_wp2_with (first | ((with_reducible refine gate_callee (f := 41) rfl ?_); refine goesL_ (some 18) rfl rfl Try.func41 (by kernel_rfl) rfl #[.agg #[.int .i64 a0_0, .slice A0_1 l0_1.length c0_1], .agg #[.slice A1_0 l1_0.length c1_0, .slice A1_1 l1_1.length c1_1, .slice A1_2 l1_2.length c1_2]] rfl ul ?_; (with_reducible refine (impl_RankOk.calls k a0_0 _ _ l0_1 _ _ l1_0 _ _ l1_1 _ _ l1_2 true _ ?side1 ?side2 ?side3 ?side4 ?side5 ?side6 ?side7 ?side8 A8.out).mono ?_); (case side1 => exact uC HR0_1 HB); (case side2 => exact HC0_1.out); (case side3 => exact uC HR1_0 HB); (case side4 => exact HC1_0.out); (case side5 => exact uC HR1_1 HB); (case side6 => exact HC1_1.out); (case side7 => exact uC HR1_2 HB); (case side8 => exact HC1_2.out); rintro e w19 ⟨rfl, hb⟩; refine ⟨_, rfl, ?_⟩; replace BK4 := bb BK4 hb; replace BK5 := bb BK5 hb; replace HB := Aside0.mk (below_step HB.out hb); clear hb hcz0 hcz1 hfz0 hfz1 hdz0 hdz1 hdz2 hez0 hez1 hez2; obtain ⟨hcz0, hcz1, hfz0, hfz1⟩ := bc2 BK4) | ((with_reducible refine gate_dst (N := 24) rfl ?_); refine Kd.R_litW (Kd.int .i64) _ 3 ?hg (N := 24) ?hd (xs := ([a2, a3] : List Int)) (inner := [.int .i64 a2, .int .i64 a3]) (ok := fun _ => True) (okp := fun _ => True) ?hr ?hp (fun _ hk => hk) trivial (Below.refl _ _) (Nat.le_refl _) (by simp) ?_; (case hd => rfl); (case hg => rfl); (case hr => first | (go_simp; done) | (go_simp; rfl)); (case hp => exact (Reps.one (show Kd.M (Kd.int .i64) _ _ _ a2 [.int .i64 a2] from rfl) (Reps.one (show Kd.M (Kd.int .i64) _ _ _ a3 [.int .i64 a3] from rfl) (Reps.none _ _)))); intro v105 w21 ho22 hb hg_ hnew_; clear hg_ hnew_; rw [← NY.out] at ho22; have HO106 := Aside0.mk (Kd.R_lower ho22 (below_size HB.out)); replace BK4 := bb BK4 hb; replace BK5 := bb BK5 hb; replace HB := Aside0.mk (below_step HB.out hb); clear hb ho22; obtain ⟨Ao23, co23, eo23⟩ := Kd.R_slice HO106.out; subst eo23) | (go_at_call 56; (with_reducible refine (impl_Net_has.calls a0_0 _ _ l0_1 _ _ y104 false _ ?side1 ?side2 ?side3 ?side4 A10.out).mono ?_); (case side1 => exact uC HR0_1 HB); (case side2 => exact HC0_1.out); (case side3 => exact (Kd.R_reads' HO106.out).2.2); (case side4 => exact (Kd.R_reads' HO106.out).2.1); rintro e w24 ⟨rfl, hb⟩; replace BK4 := bb BK4 hb; replace BK5 := bb BK5 hb; replace HB := Aside0.mk (below_step HB.out hb); clear hb HO106 hcz0 hcz1 hfz0 hfz1))
      go_ret2
      exact ⟨rfl, HB.out⟩
    | true =>
      go_upto_region 3 with (first | ((with_reducible refine gate_callee (f := 41) rfl ?_); refine goesL_ (some 18) rfl rfl Try.func41 (by kernel_rfl) rfl #[.agg #[.int .i64 a0_0, .slice A0_1 l0_1.length c0_1], .agg #[.slice A1_0 l1_0.length c1_0, .slice A1_1 l1_1.length c1_1, .slice A1_2 l1_2.length c1_2]] rfl ul ?_; (with_reducible refine (impl_RankOk.calls k a0_0 _ _ l0_1 _ _ l1_0 _ _ l1_1 _ _ l1_2 true _ ?side1 ?side2 ?side3 ?side4 ?side5 ?side6 ?side7 ?side8 A8.out).mono ?_); (case side1 => exact uC HR0_1 HB); (case side2 => exact HC0_1.out); (case side3 => exact uC HR1_0 HB); (case side4 => exact HC1_0.out); (case side5 => exact uC HR1_1 HB); (case side6 => exact HC1_1.out); (case side7 => exact uC HR1_2 HB); (case side8 => exact HC1_2.out); rintro e w19 ⟨rfl, hb⟩; refine ⟨_, rfl, ?_⟩; replace BK4 := bb BK4 hb; replace BK5 := bb BK5 hb; replace HB := Aside0.mk (below_step HB.out hb); clear hb hcz0 hcz1 hfz0 hfz1 hdz0 hdz1 hdz2 hez0 hez1 hez2; obtain ⟨hcz0, hcz1, hfz0, hfz1⟩ := bc2 BK4) | ((with_reducible refine gate_dst (N := 24) rfl ?_); refine Kd.R_litW (Kd.int .i64) _ 3 ?hg (N := 24) ?hd (xs := ([a2, a3] : List Int)) (inner := [.int .i64 a2, .int .i64 a3]) (ok := fun _ => True) (okp := fun _ => True) ?hr ?hp (fun _ hk => hk) trivial (Below.refl _ _) (Nat.le_refl _) (by simp) ?_; (case hd => rfl); (case hg => rfl); (case hr => first | (go_simp; done) | (go_simp; rfl)); (case hp => exact (Reps.one (show Kd.M (Kd.int .i64) _ _ _ a2 [.int .i64 a2] from rfl) (Reps.one (show Kd.M (Kd.int .i64) _ _ _ a3 [.int .i64 a3] from rfl) (Reps.none _ _)))); intro v105 w21 ho22 hb hg_ hnew_; clear hg_ hnew_; rw [← NY.out] at ho22; have HO106 := Aside0.mk (Kd.R_lower ho22 (below_size HB.out)); replace BK4 := bb BK4 hb; replace BK5 := bb BK5 hb; replace HB := Aside0.mk (below_step HB.out hb); clear hb ho22; obtain ⟨Ao23, co23, eo23⟩ := Kd.R_slice HO106.out; subst eo23) | (go_at_call 56; (with_reducible refine (impl_Net_has.calls a0_0 _ _ l0_1 _ _ y104 true _ ?side1 ?side2 ?side3 ?side4 A10.out).mono ?_); (case side1 => exact uC HR0_1 HB); (case side2 => exact HC0_1.out); (case side3 => exact (Kd.R_reads' HO106.out).2.2); (case side4 => exact (Kd.R_reads' HO106.out).2.1); rintro e w24 ⟨rfl, hb⟩; replace BK4 := bb BK4 hb; replace BK5 := bb BK5 hb; replace HB := Aside0.mk (below_step HB.out hb); clear hb HO106 hcz0 hcz1 hfz0 hfz1))
      have hres := H.out
      simp only [eq_self, if_true, HT.out] at hres
      have HRES := Aside0.mk (Option.some.inj hres)
      obtain ⟨hok, hord, hmat⟩ := impl_rkok A8.out
      obtain ⟨b1, b2, b3⟩ := rk_bounds hok
      have hrng := HT.out
      have hbx := rkAll_bx hok l1_0
      unfold inB at hrng
      rw [w64 (by omega)] at hrng
      simp only [Bool.and_true, Bool.and_eq_true, decide_eq_true_eq] at hrng
      obtain ⟨n, hn⟩ : ∃ n : Nat, (n : Int) = a0_0 := ⟨a0_0.toNat, by omega⟩
      have hol : l1_0.length = n := by have := hord.1; omega
      have hin : ∀ x ∈ l1_0, 0 ≤ x ∧ x < (n : Int) := fun x hx => by rw [hn]; exact hord.2.2 x hx
      rw [← hn, Int.toNat_natCast] at hmat
      obtain ⟨C, hC⟩ : ∃ C, (rkAll l1_0 (arcS l0_1)).1 = C := ⟨_, rfl⟩
      rw [hC] at hmat HRES hbx
      subst hmat
      have HMC := Aside0.mk HR1_1.out
      rw [mat_len] at HMC
      have HOL := Aside0.mk hol
      have HIN := Aside0.mk hin
      have HBX := Aside0.mk hbx
      have HBX2 : Aside0 (∀ a b : Int, 0 ≤ trp C a b ∧ trp C a b ≤ 99999) := ⟨fun a b => hbx b a⟩
      have HN1 := Aside0.mk (show 1 ≤ n by omega)
      have HN8 := Aside0.mk (show n ≤ 8 by omega)
      have HF := Aside0.mk (show 0 ≤ a2 ∧ a2 < (n : Int) by omega)
      have HT2 := Aside0.mk (show 0 ≤ a3 ∧ a3 < (n : Int) by omega)
      clear hres hok hord b1 b2 b3 hrng hbx hol hin hC hn
      obtain ⟨hdz0, hdz1, hdz2, hez0, hez1, hez2⟩ := bc3 BK5
      rw [mat_len] at BK5 hdz1
      go_wp2_with (first | (go_at_call 57; first | ((with_reducible refine (climb_58 (.pointer (some ⟨gb5, 0, none⟩)) C HBX.out n HN1.out HN8.out A1_0 c1_0 l1_0 _ _ A1_1 A1_2 n c1_1 l1_2.length c1_2 rfl rfl a2 HOL.out HIN.out HF.out _ ?side1 ?side2 ?side3).mono ?_); (case side1 => exact uC HR1_0 HB); (case side2 => exact HC1_0.out); (case side3 => exact fun W hW a b a0 a1 b0 b1 => clo58 C n gb5 _ _ A1_1 c1_1 W (blk_below BK5.out hW) (Kd.C_below (Kd.C_below HMC.out HB.out) hW) a b a0 a1 b0 b1); rintro e w30 ⟨vU, rfl, ho, hb⟩; have RU := Aside0.mk (Kd.R_lower ho (below_size HB.out)); replace BK5 := bb BK5 hb; replace HB := Aside0.mk (below_step HB.out hb); clear hb ho hdz0 hdz1 hdz2 hez0 hez1 hez2; obtain ⟨hdz0, hdz1, hdz2, hez0, hez1, hez2⟩ := bc3 BK5) | ((with_reducible refine (climb_59 (.pointer (some ⟨gb5, 0, none⟩)) (trp C) HBX2.out n HN1.out HN8.out A1_0 c1_0 l1_0 _ _ A1_1 A1_2 n c1_1 l1_2.length c1_2 rfl rfl a3 HOL.out HIN.out HT2.out _ ?side1 ?side2 ?side3).mono ?_); (case side1 => exact uC HR1_0 HB); (case side2 => exact HC1_0.out); (case side3 => exact fun W hW a b a0 a1 b0 b1 => clo59 C n gb5 _ _ A1_1 c1_1 W (blk_below BK5.out hW) (Kd.C_below (Kd.C_below HMC.out HB.out) hW) a b a0 a1 b0 b1); rintro e w31 ⟨vD, rfl, ho, hb⟩; have RD := Aside0.mk (Kd.R_lower ho (below_size HB.out)); replace RU := Aside0.mk (Kd.R_below RU.out hb); replace BK5 := bb BK5 hb; replace HB := Aside0.mk (below_step HB.out hb); clear hb ho hdz0 hdz1 hdz2 hez0 hez1 hez2; obtain ⟨hdz0, hdz1, hdz2, hez0, hez1, hez2⟩ := bc3 BK5)))
      obtain ⟨u, hu⟩ : ∃ u, clAll C l1_0 (at0 a2) = u := ⟨_, rfl⟩
      obtain ⟨v, hv⟩ : ∃ v, clAll (trp C) l1_0 (at0 a3) = v := ⟨_, rfl⟩
      have hub : Bx1 u := hu ▸ clAll_box (fun a b => (HBX.out a b).1) l1_0 (at0_box a2)
      have hvb : Bx1 v := hv ▸ clAll_box (fun a b => (HBX.out b a).1) l1_0 (at0_box a3)
      have HRES2 : Aside0 (meet l1_0 u v = (r1, r2)) := ⟨by rw [← hu, ← hv]; exact HRES.out⟩
      rw [hu] at RU
      rw [hv] at RD
      have HUB := Aside0.mk hub; have HVB := Aside0.mk hvb
      clear hu hv hub hvb HRES
      obtain ⟨gU, cU, eU, bU, lU, clU, HGU⟩ := Kd.R_form RU.out (by rw [rowF_len]; exact HN1.out)
      obtain ⟨gD, cD, eD, bD, lD, clD, HGD⟩ := Kd.R_form RD.out (by rw [rowF_len]; exact HN1.out)
      rw [rowF_len] at eU eD
      subst eU; subst eD
      clear bU lU HGU bD lD HGD
      have hnil : l1_0.length = n := HOL.out
      obtain ⟨ad1, ea1, _⟩ := Kd.at_int HR1_0.out 0 (by omega) (by have := HN1.out; omega)
      subst ea1
      have HRD := Aside0.mk (show ∀ i : Int, 0 ≤ i → i < l1_0.length → w.cell? (ad1.add i.toNat) = some (.int .i64 (rd l1_0 i)) from fun i h0 h1 => by
        obtain ⟨a, e, h⟩ := Kd.at_int HR1_0.out i h0 h1
        cases e
        exact h)
      have HL8 := Aside0.mk (show l1_0.length ≤ 8 by have := HN8.out; omega)
      clear hnil
      clear hdz0 hdz1 hdz2 hez0 hez1 hez2
      go_loopg [12, 13, 39] l1_0.length (fun gg s12 s13 s39 wr => ∃ i : Nat, s39 = .int .i64 (i : Int) ∧ s12 = .int .i64 (fN (mt1 u v) l1_0 (99999, -1) i).1 ∧ s13 = .int .i64 (fN (mt1 u v) l1_0 (99999, -1) i).2 ∧ i ≤ l1_0.length ∧ l1_0.length - i ≤ gg ∧ Aside0 (Kd.R (Kd.int .i64) 3 wr w.heap.size (fun _ => True) (.slice (some ⟨gU, 0, none⟩) n cU) (rowF n u)) ∧ Aside0 (Kd.R (Kd.int .i64) 3 wr w.heap.size (fun _ => True) (.slice (some ⟨gD, 0, none⟩) n cD) (rowF n v)) ∧ Aside0 (Below w.heap.size w wr))
      case atStart => exact ⟨0, rfl, rfl, rfl, Nat.zero_le _, Nat.le_refl _, RU, RD, HB⟩
      case round =>
        clear RU RD HB BK4 BK5
        obtain ⟨i, rfl, rfl, rfl, hil, hgi, RU, RD, HB⟩ := hrel
        by_cases hi : i < l1_0.length
        · have hiz := dl (iz3 hi)
          have hx9 := HRD.out (i : Int) (iz4 i) (iz3 hi)
          replace hx9 := uc HB hx9
          simp only [Int.toNat_natCast] at hx9
          have p1 := eq_true (iz4 i)
          have p2 := eq_true (iz3 hi)
          have hm := HIN.out (rd l1_0 (i : Int)) (by rw [rd_at0 l1_0 i hi]; exact List.getElem_mem hi)
          have hsx := fN_succ (mt1 u v) l1_0 (99999, -1) hi
          obtain ⟨m, hm_⟩ : ∃ m, rd l1_0 (i : Int) = m := ⟨_, rfl⟩
          rw [hm_] at hx9 hm hsx
          have HM0 := Aside0.mk hm.1; have HM1 := Aside0.mk hm.2
          have HI := Aside0.mk hi; have HGI := Aside0.mk hgi; have HSX := Aside0.mk hsx
          obtain ⟨p, hp⟩ : ∃ p, (fN (mt1 u v) l1_0 (99999, -1) i) = p := ⟨_, rfl⟩
          rw [hp] at HSX ⊢
          obtain ⟨best, at_⟩ := p
          have HBU := Aside0.mk (HUB.out m); have HBV := Aside0.mk (HVB.out m)
          obtain ⟨vu, hvu⟩ : ∃ vu, u m = vu := ⟨_, rfl⟩
          obtain ⟨vv, hvv⟩ : ∃ vv, v m = vv := ⟨_, rfl⟩
          rw [hvu] at HBU
          rw [hvv] at HBV
          have HVU := Aside0.mk hvu; have HVV := Aside0.mk hvv
          have hsum := va_sum HBU.out HBV.out
          clear hm hm_ hi hil hgi hsx hp hvu hvv
          dsimp only
          go_upto_region 9 with (fail)
          clear hx9
          replace RU := Aside0.mk (Kd.R_drew RU.out); replace RD := Aside0.mk (Kd.R_drew RD.out); replace HB := Aside0.mk (below_drew1 HB.out)
          have hU := (Kd.R_celln 0 RU.out m HM0.out HM1.out).1
          have hD := (Kd.R_celln 0 RD.out m HM0.out HM1.out).1
          have eU : rdOf 0 (rowF n u) m = vu := (rd_rowF u HM0.out HM1.out).trans HVU.out
          have eD : rdOf 0 (rowF n v) m = vv := (rd_rowF v HM0.out HM1.out).trans HVV.out
          rw [eU] at hU
          rw [eD] at hD
          have z0 := eq_true HM0.out; have z1 := eq_true HM1.out
          clear eU eD
          refine start_ (n := 25) (S := fun w' => w'.cell? ⟨gU, m.toNat, none⟩ = some (.int .i64 vu) ∧ w'.cell? ⟨gD, m.toNat, none⟩ = some (.int .i64 vv)) (ds := []) (zt 25 0) (by kernel_rfl) rfl (by kernel_rfl) ⟨hU, hD⟩ (fun hHeld => ?_)
          refine with_tabW nr9_tab nr9_bits (fun HT_ HW_ => ?_)
          generalize wr.drew = w50 at RU RD HB hHeld hU hD ⊢
          by_cases c1 : vu = 99999
          · obtain ⟨c1b0, c1b1⟩ := dq c1
            have HNX := Aside0.mk (HSX.out.trans (mt1_no (fun h => by have h9 := h.1; rw [HVU.out, c1] at h9; exact absurd h9 (by decide))))
            clear c1
            refine qz HT_ 0 ?_; refine qz HT_ 1 ?_; refine qz HT_ 2 ?_; refine qt HT_ HW_ hHeld 3 ?_; refine qz HT_ 4 ?_; refine qz HT_ 5 ?_; refine qn HT_ 6 ?_; refine qn HT_ 7 ?_; refine qn HT_ 8 ?_; refine qn HT_ 9 ?_; refine qn HT_ 10 ?_; refine qz HT_ 11 ?_; refine qz HT_ 12 ?_; refine qn HT_ 13 ?_; refine qn HT_ 14 ?_; refine qn HT_ 15 ?_; refine qn HT_ 16 ?_; refine qn HT_ 17 ?_; refine qn HT_ 18 ?_; refine qn HT_ 19 ?_; refine qn HT_ 20 ?_; refine qn HT_ 21 ?_; refine qn HT_ 22 ?_; refine qn HT_ 23 ?_; refine qz HT_ 24 ?_; refine done_ (done_of HT_.out (by kernel_rfl)) ?_
            clear HT_ HW_ hHeld
            try go_wp2
            go_roundg (l1_0.length - i - 1)
            case measure => exact Nat.lt_of_lt_of_le (iz9 HI.out) HGI.out
            case rel => exact ⟨i + 1, congrArg (Value.int .i64) (iz7 HI.out HL8.out), by rw [HNX.out], by rw [HNX.out], HI.out, Nat.le_refl _, RU, RD, HB⟩
          · obtain ⟨c1b0, c1b1⟩ := dQ c1
            by_cases c2 : vv = 99999
            · obtain ⟨c2b0, c2b1⟩ := dq c2
              have HNX := Aside0.mk (HSX.out.trans (mt1_no (fun h => by have h9 := h.2.1; rw [HVV.out, c2] at h9; exact absurd h9 (by decide))))
              clear c1 c2
              refine qz HT_ 0 ?_; refine qz HT_ 1 ?_; refine qz HT_ 2 ?_; refine qt HT_ HW_ hHeld 3 ?_; refine qz HT_ 4 ?_; refine qz HT_ 5 ?_; refine qz HT_ 6 ?_; refine qz HT_ 7 ?_; refine qz HT_ 8 ?_; refine qt HT_ HW_ hHeld 9 ?_; refine qz HT_ 10 ?_; refine qz HT_ 11 ?_; refine qz HT_ 12 ?_; refine qn HT_ 13 ?_; refine qn HT_ 14 ?_; refine qn HT_ 15 ?_; refine qn HT_ 16 ?_; refine qn HT_ 17 ?_; refine qn HT_ 18 ?_; refine qn HT_ 19 ?_; refine qn HT_ 20 ?_; refine qn HT_ 21 ?_; refine qn HT_ 22 ?_; refine qn HT_ 23 ?_; refine qz HT_ 24 ?_; refine done_ (done_of HT_.out (by kernel_rfl)) ?_
              clear HT_ HW_ hHeld
              try go_wp2
              go_roundg (l1_0.length - i - 1)
              case measure => exact Nat.lt_of_lt_of_le (iz9 HI.out) HGI.out
              case rel => exact ⟨i + 1, congrArg (Value.int .i64) (iz7 HI.out HL8.out), by rw [HNX.out], by rw [HNX.out], HI.out, Nat.le_refl _, RU, RD, HB⟩
            · obtain ⟨c2b0, c2b1⟩ := dQ c2
              by_cases c3 : vu + vv < best
              rotate_left
              · have c3d := DL c3
                have HNX := Aside0.mk (HSX.out.trans (mt1_no (fun h => by have h9 := h.2.2; rw [HVU.out, HVV.out] at h9; exact c3 h9)))
                clear c1 c2 c3
                refine qz HT_ 0 ?_; refine qz HT_ 1 ?_; refine qz HT_ 2 ?_; refine qt HT_ HW_ hHeld 3 ?_; refine qz HT_ 4 ?_; refine qz HT_ 5 ?_; refine qz HT_ 6 ?_; refine qz HT_ 7 ?_; refine qz HT_ 8 ?_; refine qt HT_ HW_ hHeld 9 ?_; refine qz HT_ 10 ?_; refine qz HT_ 11 ?_; refine qz HT_ 12 ?_; refine qz HT_ 13 ?_; refine qz HT_ 14 ?_; refine qz HT_ 15 ?_; refine qt HT_ HW_ hHeld 16 ?_; refine qz HT_ 17 ?_; refine qz HT_ 18 ?_; refine qz HT_ 19 ?_; refine qt HT_ HW_ hHeld 20 ?_; refine qz HT_ 21 ?_; refine qz HT_ 22 ?_; refine qz HT_ 23 ?_; refine qz HT_ 24 ?_; refine done_ (done_of HT_.out (by kernel_rfl)) ?_
                clear HT_ HW_ hHeld
                try go_wp2
                go_roundg (l1_0.length - i - 1)
                case measure => exact Nat.lt_of_lt_of_le (iz9 HI.out) HGI.out
                case rel => exact ⟨i + 1, congrArg (Value.int .i64) (iz7 HI.out HL8.out), by rw [HNX.out], by rw [HNX.out], HI.out, Nat.le_refl _, RU, RD, HB⟩
              · have c3d := dl c3
                have HNX := Aside0.mk (HSX.out.trans (mt1_yes ⟨by rw [HVU.out]; exact lt_far HBU.out c1, by rw [HVV.out]; exact lt_far HBV.out c2, by rw [HVU.out, HVV.out]; exact c3⟩))
                rw [HVU.out, HVV.out] at HNX
                clear c1 c2 c3
                refine qz HT_ 0 ?_; refine qz HT_ 1 ?_; refine qz HT_ 2 ?_; refine qt HT_ HW_ hHeld 3 ?_; refine qz HT_ 4 ?_; refine qz HT_ 5 ?_; refine qz HT_ 6 ?_; refine qz HT_ 7 ?_; refine qz HT_ 8 ?_; refine qt HT_ HW_ hHeld 9 ?_; refine qz HT_ 10 ?_; refine qz HT_ 11 ?_; refine qz HT_ 12 ?_; refine qz HT_ 13 ?_; refine qz HT_ 14 ?_; refine qz HT_ 15 ?_; refine qt HT_ HW_ hHeld 16 ?_; refine qz HT_ 17 ?_; refine qz HT_ 18 ?_; refine qz HT_ 19 ?_; refine qt HT_ HW_ hHeld 20 ?_; refine qz HT_ 21 ?_; refine qz HT_ 22 ?_; refine qz HT_ 23 ?_; refine qz HT_ 24 ?_; refine done_ (done_of HT_.out (by kernel_rfl)) ?_
                clear HT_ HW_ hHeld
                try go_wp2
                clear hU hD
                replace RU := Aside0.mk (Kd.R_drew RU.out); replace RD := Aside0.mk (Kd.R_drew RD.out); replace HB := Aside0.mk (below_drew1 HB.out)
                have hU := (Kd.R_celln 0 RU.out m HM0.out HM1.out).1
                have hD := (Kd.R_celln 0 RD.out m HM0.out HM1.out).1
                have eU : rdOf 0 (rowF n u) m = vu := (rd_rowF u HM0.out HM1.out).trans HVU.out
                have eD : rdOf 0 (rowF n v) m = vv := (rd_rowF v HM0.out HM1.out).trans HVV.out
                rw [eU] at hU
                rw [eD] at hD
                clear eU eD
                refine start_ (n := 12) (S := fun w' => w'.cell? ⟨gU, m.toNat, none⟩ = some (.int .i64 vu) ∧ w'.cell? ⟨gD, m.toNat, none⟩ = some (.int .i64 vv)) (ds := []) (zt 12 0) (by kernel_rfl) rfl (by kernel_rfl) ⟨hU, hD⟩ (fun hHeld => ?_)
                refine with_tabW nr10_tab nr10_bits (fun HT_ HW_ => ?_)
                generalize w50.drew = w51 at RU RD HB hHeld hU hD ⊢
                refine qz HT_ 0 ?_; refine qz HT_ 1 ?_; refine qz HT_ 2 ?_; refine qt HT_ HW_ hHeld 3 ?_; refine qz HT_ 4 ?_; refine qz HT_ 5 ?_; refine qz HT_ 6 ?_; refine qt HT_ HW_ hHeld 7 ?_; refine qz HT_ 8 ?_; refine qz HT_ 9 ?_; refine qz HT_ 10 ?_; refine qz HT_ 11 ?_
                refine done_ (done_of HT_.out (by kernel_rfl)) ?_
                clear HT_ HW_ hHeld
                try go_wp2
                go_roundg (l1_0.length - i - 1)
                case measure => exact Nat.lt_of_lt_of_le (iz9 HI.out) HGI.out
                case rel => exact ⟨i + 1, congrArg (Value.int .i64) (iz7 HI.out HL8.out), by rw [HNX.out], by rw [HNX.out], HI.out, Nat.le_refl _, RU, RD, HB⟩
        · have hiz := DL (iz5 hi)
          have hq1 := eq_false (iz5 hi); have hq2 := eq_false hi
          have ei := iz6 hi hil
          have hall := fN_all (mt1 u v) l1_0 (99999, -1)
          rw [ei, hall, show l1_0.foldl (mt1 u v) (99999, -1) = (r1, r2) from HRES2.out]
          clear hall hi hil hgi ei
          go_wp2
          go_ret2
          exact ⟨rfl, HB.out⟩
end Go.Proofs.Ytdlaaccnaokdnaa.P
