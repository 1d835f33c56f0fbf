/- Contract: spec.l8Make, by hand: as impl.rankOf, in the reference's own steps. -/
import Derived.Test.YtdlaaccnaokdnaaHRank
set_option linter.unusedVariables false
set_option linter.unusedSimpArgs false
namespace Go.Proofs.Ytdlaaccnaokdnaa.P
open Go.RowKit Go.Proofs.Ytdlaaccnaokdnaa.M Go.Proofs.YtdlaaccnaokdnaaV.PrintWords Go.Proofs.YtdlaaccnaokdnaaV.PrintLast Go.Proofs.YtdlaaccnaokdnaaV.PrintMore
def mk24_T : Bool × List (List Nat × List Nat) := (true, [([], []), ([], []), ([0, 1], [0, 1]), ([2], [2]), ([3], [3]), ([3], [3]), ([4, 5, 3], [3, 4, 5]), ([6, 3], [3, 6]), ([3], [3]), ([7, 8, 3], [3, 7, 8]), ([9, 3], [3, 9]), ([10, 3], [3, 10]), ([3, 11], [3, 11]), ([12, 3], [12]), ([13], [13]), ([13], [13]), ([14, 15, 13], [13, 14, 15]), ([16, 13], [13, 16]), ([13], [13]), ([17, 18, 13], [13, 17, 18]), ([19, 13], [13, 19]), ([20, 13], [13, 20]), ([13, 21], [13, 21]), ([22, 13], [22]), ([23], [23]), ([23], [23]), ([24, 25, 23], [23, 24, 25]), ([26, 23], [23, 26]), ([23], [23]), ([27, 28, 23], [23, 27, 28]), ([29, 23], [23, 29]), ([23], [23]), ([23], [23]), ([31, 32, 23], [23, 31, 32]), ([33, 23], [23, 33]), ([23], [23]), ([34, 35, 23], [23, 34, 35]), ([36, 23], [23, 36]), ([30, 37, 23], [23, 30, 37]), ([23], [23]), ([23], [23]), ([39, 40, 23], [23, 39, 40]), ([41, 23], [23, 41]), ([23], [23]), ([42, 43, 23], [23, 42, 43]), ([44, 23], [23, 44]), ([38, 45, 23], [23, 38, 45]), ([23, 46], [23, 46])])
def mk24_B : List Nat := [0, 0, 3, 7, 15, 15, 63, 127, 15, 511, 1023, 2047, 4095, 8191, 16383, 16383, 65535, 131071, 16383, 524287, 1048575, 2097151, 4194303, 8388607, 16777215, 16777215, 67108863, 134217727, 16777215, 536870911, 1073741823, 16777215, 16777215, 6459228159, 15049162751, 16777215, 66588770303, 135308247039, 274877906943, 16777215, 16777215, 1649284218879, 3848307474431, 16777215, 17042447007743, 34634633052159, 70368744177663, 140737488355327]
theorem mk24_tab : rtab .any (opsOf Try.f68 24) = mk24_T := by kernel_rfl
theorem mk24_bits : waitsOk mk24_T.2 mk24_B = true := by kernel_rfl
def mk25_T : Bool × List (List Nat × List Nat) := (true, [([], []), ([], []), ([0, 1], [0, 1]), ([2], [2]), ([], []), ([], []), ([], []), ([5, 6], [5, 6]), ([7], [7]), ([], []), ([8, 9], [8, 9]), ([10], [10]), ([], []), ([], []), ([12, 13], [12, 13]), ([14], [14]), ([], []), ([15, 16], [15, 16]), ([17], [17]), ([11, 18], [11, 18]), ([3, 4, 0, 1, 2, 3, 4, 5, 6, 7, 8, 9, 10, 11, 12, 13, 14, 15, 16, 17, 18, 19], [3, 4]), ([20, 19, 0, 1, 2, 3, 4, 5, 6, 7, 8, 9, 10, 11, 12, 13, 14, 15, 16, 17, 18, 19], [19, 20])])
def mk25_B : List Nat := [0, 0, 3, 7, 0, 0, 0, 96, 224, 0, 992, 2016, 0, 0, 12288, 28672, 0, 126976, 258048, 524256, 1048575, 2097151]
theorem mk25_tab : rtab .any (opsOf Try.f68 25) = mk25_T := by kernel_rfl
theorem mk25_bits : waitsOk mk25_T.2 mk25_B = true := by kernel_rfl
def spec_l8Make.f (a0_0 : Int) (l0_1 : List S61) (l1 : List Int) : Option (List Int × List (List Int) × List (List Int)) := rkF a0_0 l0_1 l1
theorem row_put {n j : Nat} (hj : j < n) : (List.replicate j (-1 : Int) ++ List.replicate (n - j) 0).set (j : Int).toNat (-1) = List.replicate (j + 1) (-1) ++ List.replicate (n - (j + 1)) 0 := by
  rw [show n - j = (n - (j + 1)) + 1 from by omega, List.replicate_succ, Int.toNat_natCast, List.set_append]
  simp [List.replicate_succ']
theorem row_len {n j : Nat} (hj : j ≤ n) : (List.replicate j (-1 : Int) ++ List.replicate (n - j) 0).length = n := by simp; omega
theorem RkW.finish2 {w wr w2 : World} {bs : List (Nat × Array Value × TypeId)} {rs : List (Value × List Int)} {lo mid : Nat} {aC aV : Addr} {cC cV n : Nat} {s : Tabs} (h : RkW w bs rs lo mid aC cC aV cV n s wr) (hb2 : Below wr.heap.size wr w2) {v : Value} {l : List Int} (hR : Kd.R (Kd.int .i64) 3 w2 wr.heap.size (fun _ => True) v l) {g : Nat} {cs : Array Value} (hb : w2.heap[g]? = some (.cells cs 37 (0, 0))) (hg : w.heap.size ≤ g) (u0 u1 u2 : Value) :
    Kd.R (Kd.int .i64) 3 (((w2.setCell ⟨g, 0, none⟩ u0).setCell ⟨g, 1, none⟩ u1).setCell ⟨g, 2, none⟩ u2) w.heap.size (fun k_ => wr.heap.size ≤ k_) v l ∧ Kd.S (Kd.slice 3 (Kd.int .i64)) 25 (((w2.setCell ⟨g, 0, none⟩ u0).setCell ⟨g, 1, none⟩ u1).setCell ⟨g, 2, none⟩ u2) w.heap.size (fun k_ => k_ < mid ∧ k_ < wr.heap.size) (.slice (some aC) n cC) (mat n s.1) ∧ Kd.S (Kd.slice 3 (Kd.int .i64)) 25 (((w2.setCell ⟨g, 0, none⟩ u0).setCell ⟨g, 1, none⟩ u1).setCell ⟨g, 2, none⟩ u2) w.heap.size (fun k_ => mid ≤ k_ ∧ k_ < wr.heap.size) (.slice (some aV) n cV) (mat n s.2) ∧ Below w.heap.size w (((w2.setCell ⟨g, 0, none⟩ u0).setCell ⟨g, 1, none⟩ u1).setCell ⟨g, 2, none⟩ u2) := by
  have hC := Kd.S_below (Kd.S_bound h.hC) hb2
  have hV := Kd.S_below (Kd.S_bound h.hV) hb2
  have hRl := Kd.R_lower (Kd.R_bound hR) (below_size h.hB)
  have hB2 := below_step h.hB hb2
  refine ⟨Kd.R_mono (Kd.R_far (p := ⟨g, 2, none⟩) (Kd.R_far (p := ⟨g, 1, none⟩) (Kd.R_far (p := ⟨g, 0, none⟩) (Kd.R_types hRl hb (by decide)) (fun _ hk => hk.2) _) (fun _ hk => hk.2) _) (fun _ hk => hk.2) _) (fun k hk => hk.1.2.1), Kd.S_mono (Kd.S_far (p := ⟨g, 2, none⟩) (Kd.S_far (p := ⟨g, 1, none⟩) (Kd.S_far (p := ⟨g, 0, none⟩) (Kd.S_types hC hb (by decide)) (fun _ hk => hk.2) _) (fun _ hk => hk.2) _) (fun _ hk => hk.2) _) (fun k hk => ⟨hk.1.1.2, hk.1.2.2.1⟩), Kd.S_mono (Kd.S_far (p := ⟨g, 2, none⟩) (Kd.S_far (p := ⟨g, 1, none⟩) (Kd.S_far (p := ⟨g, 0, none⟩) (Kd.S_types hV hb (by decide)) (fun _ hk => hk.2) _) (fun _ hk => hk.2) _) (fun _ hk => hk.2) _) (fun k hk => ⟨hk.1.1, hk.1.2.2.1⟩), below_set (below_set (below_set hB2 hg) hg) hg⟩
theorem iz12 {i x l : Nat} (h : i + 1 + x < l) : x < l - (i + 1) := by omega
theorem iz13 {q i y : Nat} (h : q = i + 1 + y) : q + 1 = i + 1 + (y + 1) := by omega
theorem iz14 {q i y l : Nat} (h : q = i + 1 + y) (hq : ¬ q < l) (hy : y ≤ l - (i + 1)) : y = l - (i + 1) := by omega
set_option maxHeartbeats 8000000 in
set_option maxRecDepth 100000 in
theorem spec_l8Make.callsW (a0_0 : Int) (A0_1 : Option Addr) (c0_1 : Nat) (l0_1 : List S61) (A1 : Option Addr) (c1 : Nat) (l1 : List Int) (r1 : List Int) (r2 r3 : List (List Int)) (w : World) (hr0_1 : Kd.C k61 w A0_1 l0_1.length l0_1) (hc0_1 : l0_1.length ≤ c0_1) (hr1 : Kd.C (Kd.int .i64) w A1 l1.length l1) (hc1 : l1.length ≤ c1) (h : spec_l8Make.f a0_0 l0_1 l1 = some (r1, r2, r3)) :
    Calls Try.prog 68 #[.agg #[.int .i64 a0_0, .slice A0_1 l0_1.length c0_1], .slice A1 l1.length c1] w fun e w' => ∃ v0_ v1_ v2_ : Value, ∃ mid_ hi_ : Nat, e = .returned (.agg #[v0_, v1_, v2_]) ∧ Kd.R (Kd.int .i64) 3 w' w.heap.size (fun k_ => hi_ ≤ k_) v0_ r1 ∧ Kd.S (Kd.slice 3 (Kd.int .i64)) 25 w' w.heap.size (fun k_ => k_ < mid_ ∧ k_ < hi_) v1_ r2 ∧ Kd.S (Kd.slice 3 (Kd.int .i64)) 25 w' w.heap.size (fun k_ => mid_ ≤ k_ ∧ k_ < hi_) v2_ r3 ∧ Below w.heap.size w w' := by
  have hu35 := Try.underlying35
  have hu61 := Try.underlying61
  have hu37 := Try.underlying37
  have HR0_1 := Aside0.mk hr0_1
  have HC0_1 := Aside0.mk hc0_1
  have HR1 := Aside0.mk hr1
  have HC1 := Aside0.mk hc1
  clear hr0_1 hc0_1 hr1 hc1
  have HB := Aside0.mk (Below.refl w.heap.size w)
  unfold spec_l8Make.f rkF at h
  by_cases hok : netOkB a0_0 l0_1 = true ∧ Ord l1 a0_0
  rotate_left
  · rw [if_neg hok] at h; cases h
  rw [if_pos hok] at h
  have e := Option.some.inj h
  injection e with e1 e
  injection e with e2 e3
  subst e1; subst e2; subst e3
  obtain ⟨hok, hol⟩ := hok
  obtain ⟨n1, n8, nl⟩ := rk_bounds hok
  obtain ⟨ol, ond, oin⟩ := hol
  obtain ⟨n, hn⟩ : ∃ n : Nat, (n : Int) = a0_0 := ⟨a0_0.toNat, by omega⟩
  subst hn
  rw [Int.toNat_natCast]
  have HN1 := Aside0.mk (show 0 < n by omega)
  have HN8 := Aside0.mk (show n ≤ 8 by omega)
  have HOL := Aside0.mk (show l1.length = n by omega)
  have HIN := Aside0.mk oin
  obtain ⟨kG, eG⟩ := specgrid_some hok
  rw [Int.toNat_natCast] at eG
  have HGC := Aside0.mk eG
  have HBX := Aside0.mk (arcG_box hok)
  have HL8 := Aside0.mk (show l1.length ≤ 8 by omega)
  obtain ⟨ad1, ea1, _⟩ := Kd.at_int HR1.out 0 (by omega) (by omega)
  subst ea1
  have HRD := Aside0.mk (show ∀ i : Int, 0 ≤ i → i < l1.length → w.cell? (ad1.add i.toNat) = some (.int .i64 (rd l1 i)) from fun i h0 h1 => by
    obtain ⟨a, e, h⟩ := Kd.at_int HR1.out i h0 h1
    cases e
    exact h)
  clear h hok nl n1 n8 ol ond oin eG
  go_enter Try.func68, Try.ntmps68
  go_wp2_with (first | ((with_reducible refine gate_dst (N := 2) rfl ?_); refine be (cs := #[.int .i64 (n : Int), .slice A0_1 l0_1.length c0_1]) (t := 35) ?_; intro gb2 hg w5 hbox hb; have BK2 := Aside0.mk hbox; have GE2 := gz w hg (uB0 HB); replace HB := Aside0.mk (below_step (uB0 HB) hb); clear hb hbox hg) | ((with_reducible refine gate_dst (N := 4) rfl ?_); refine be (cs := #[.slice none 0 0, .slice none 0 0, .slice none 0 0]) (t := 37) ?_; intro gb4 hg w6 hbox hb; have BK4 := Aside0.mk hbox; have GE4 := gz w hg (uB1 HB GE2.out); replace HB := Aside0.mk (below_step (uB1 HB GE2.out) hb); have NB24 := gl hg BK2; replace BK2 := bb BK2 hb; clear hb hbox hg; obtain ⟨hz0, hz1, hf0, hf1⟩ := bc2 BK2) | (go_at_call 102; (with_reducible refine (spec_l8Grid.calls kG (n : Int) _ _ l0_1 _ _ ?side1 ?side2 HGC.out).mono ?_); (case side1 => exact uC HR0_1 HB); (case side2 => exact HC0_1.out); rintro e w7 ⟨v5, rfl, ho0, hb⟩; have hsz := below_size HB.out; replace BK2 := bb BK2 hb; replace BK4 := bb BK4 hb; replace HB := Aside0.mk (below_step HB.out hb); have S5 := Aside0.mk (Kd.S_mono (ok' := fun k => k < w7.heap.size) (Kd.S_bound (Kd.S_lower ho0 hsz)) (fun k hk => hk.2.2.1)); clear ho0 hb hsz hz0 hz1 hf0 hf1) | ((with_reducible refine gate_dst (N := 18) rfl ?_); refine Kd.S_lit (Kd.slice 3 (Kd.int .i64)) _ 25 ?hg (N := 18) ?hd (xs := ([] : List (List Int))) (inner := []) (ok := fun _ => True) (okp := fun _ => True) ?hr ?hp (fun _ hk => hk) trivial (Below.refl _ _) (Nat.le_refl _) (by simp) ?_; (case hd => rfl); (case hg => rfl); (case hr => first | (go_simp; done) | (go_simp; rfl)); (case hp => exact (Reps.none _ _)); intro v6 w8 ho4 hb hg_ hnew_; clear hg_ hnew_; have S6 := Aside0.mk ho4; have HM := Aside0.mk hb; clear hb ho4))
  go_loopg [6, 7] n (fun gg s6 s7 wr => ∃ i : Nat, s7 = .int .i64 (i : Int) ∧ i ≤ n ∧ n - i ≤ gg ∧ Aside0 (Kd.S (Kd.slice 3 (Kd.int .i64)) 25 wr w7.heap.size (fun _ => True) s6 (List.replicate i (List.replicate n (-1)))) ∧ Aside0 (Below w7.heap.size w7 wr))
  case atStart => exact ⟨0, rfl, Nat.zero_le _, Nat.le_refl _, S6, HM⟩
  case round =>
    clear S6 HM
    obtain ⟨i, rfl, hil, hgi, S6, HM⟩ := hrel
    have BK2_ := bb BK2 HM.out
    obtain ⟨hz0, hz1, hf0, hf1⟩ := bc2 BK2_
    by_cases hi : i < n
    · have hiz := dl (iz3 hi)
      have p1 := eq_true (iz3 hi)
      have HI := Aside0.mk hi; have HIL := Aside0.mk hil; have HGI := Aside0.mk hgi
      have p2 := eq_true (iz4 n)
      clear hi hil hgi
      go_wp2_with ((with_reducible refine gate_dst (N := 27) rfl ?_); refine Kd.R_make (Kd.int .i64) _ 3 rfl (N := 27) rfl 25 _ _ rfl (n : Int) rfl rfl Try.underlying25 (.int .i64 0) 8 info3 rfl (by decide) (by omega) 0 (ok := fun _ => True) (okp := fun _ => True) rfl (fun _ hk => hk) trivial (iz4 n) (by rw [Int.toNat_natCast]; have := HN8.out; omega) (Below.refl _ _) (Nat.le_refl _) ?_; intro v8 w9 ho10 hb hg_ hnew_; clear hg_ hnew_; replace S6 := Aside0.mk (Kd.S_elder' S6.out (Kd.R_base ho10) hb); have R8 := Aside0.mk (Kd.R_lower ho10 (below_size HM.out)); replace HM := Aside0.mk (below_step HM.out hb); clear hb ho10 hz0 hz1 hf0 hf1 BK2_)
      rw [Int.toNat_natCast] at R8
      go_loopg [9] n (fun gg s9 wr => ∃ j : Nat, s9 = .int .i64 (j : Int) ∧ j ≤ n ∧ n - j ≤ gg ∧ Aside0 (Kd.S (Kd.slice 3 (Kd.int .i64)) 25 wr w7.heap.size (fun k_ => some k_ ≠ (v8 : Value).ownBlock) u6 (List.replicate i (List.replicate n (-1)))) ∧ Aside0 (Kd.R (Kd.int .i64) 3 wr w7.heap.size (fun _ => True) v8 (List.replicate j (-1) ++ List.replicate (n - j) 0)) ∧ Aside0 (Below w7.heap.size w7 wr))
      case atStart => exact ⟨0, rfl, Nat.zero_le _, Nat.le_refl _, ⟨Kd.S_mono S6.out (fun _ hk => hk.2)⟩, R8, HM⟩
      case round =>
        clear S6 R8 HM
        obtain ⟨j, rfl, hjl, hgj, S6, R8, HM⟩ := hrel
        have BK2_ := bb BK2 HM.out
        obtain ⟨hz0, hz1, hf0, hf1⟩ := bc2 BK2_
        obtain ⟨go14, co14, eo14, gb14, gl14, cl14, HG14⟩ := Kd.R_form R8.out (by rw [row_len hjl]; exact HN1.out)
        rw [row_len hjl] at eo14
        subst eo14
        by_cases hj : j < n
        · have hjz := dl (iz3 hj)
          have q1 := eq_true (iz3 hj)
          have q2 := eq_true (iz4 j)
          have hx14 := Kd.R_celln 0 R8.out (j : Int) (iz4 j) (iz3 hj)
          have hp := Kd.R_putg R8.out (j : Int) (-1)
          rw [row_put hj] at hp
          have HP := Aside0.mk hp.1; have HPG := Aside0.mk hp.2
          obtain ⟨hx0, hfx⟩ := hx14
          simp only [Int.toNat_natCast] at hx0 hfx HP HPG
          have GB := Aside0.mk gb14; have HJ := Aside0.mk hj; have HGJ := Aside0.mk hgj
          clear hp gb14 gl14 HG14 hj hjl hgj BK2_ R8
          go_wp2
          go_roundg (n - j - 1)
          case measure => exact Nat.lt_of_lt_of_le (iz9 HJ.out) HGJ.out
          case rel => exact ⟨j + 1, congrArg (Value.int .i64) (iz7 HJ.out HN8.out), HJ.out, Nat.le_refl _, ⟨Kd.S_mono (Kd.S_after (v := (.slice (some ⟨go14, 0, none⟩) n co14)) (v1 := (.slice (some ⟨go14, 0, none⟩) n co14)) (ok := (fun _ => True)) (Kd.S_mono S6.out (fun _ hk => ⟨trivial, hk⟩)) HPG.out (.inl rfl)) (fun _ hk => hk.2)⟩, HP, ⟨below_set HM.out GB.out⟩⟩
        · have hjz := DL (iz5 hj)
          have hq1 := eq_false (iz5 hj); have hq2 := eq_false hj
          have ej := iz6 hj hjl
          rw [ej, Nat.sub_self, List.replicate_zero, List.append_nil] at R8
          clear hj hjl hgj ej gb14 gl14 HG14 BK2_
          go_wp2_with ((with_reducible refine gate_builtin (b := .append) (xs := #[.tmp 37, .tmp 39]) rfl ?_); at_builtin; refine Kd.S_append (Kd.slice 3 (Kd.int .i64)) (w0 := w7) w7.heap.size rfl (.tmp 37) (.tmp 39) 26 25 (.slice none 0 0) 24 rfl Try.underlying26 info25 rfl (by decide) (by omega) u6 (List.replicate i (List.replicate n (-1))) (List.replicate n (-1)) [.slice (some ⟨go14, 0, none⟩) n co14] (fun _ => True) (fun k_ => some k_ = (.slice (some ⟨go14, 0, none⟩) n co14 : Value).ownBlock) rfl rfl ?aP (fun k_ hk_ => ((Kd.R_mono (ok' := fun k_ => ((fun _ => True)) k_ ∧ some k_ ≠ (u6 : Value).ownBlock) (Kd.R_apart' (R8.out) (Kd.S_typed S6.out) (by decide)) (fun k_ hk => ⟨trivial, hk.2⟩))).1 k_ hk_.symm) ?aF ?aO ?aB ?aS ?aL ?_; (case aP => exact Kd.M_row (Kd.R_mono (Kd.R_tight (by first | rfl | simp) (Kd.R_mono (ok' := fun k_ => ((fun _ => True)) k_ ∧ some k_ ≠ (u6 : Value).ownBlock) (Kd.R_apart' (R8.out) (Kd.S_typed S6.out) (by decide)) (fun k_ hk => ⟨trivial, hk.2⟩))) (fun _ h_ => h_))); (case aB => exact HM.out); (case aF => exact (fun _ _ => trivial)); (case aO => exact Kd.S_mono S6.out (fun k_ hk => ⟨trivial, fun e_ => hk e_⟩)); (case aS => exact (below_size HM.out)); (case aL => have h8 := HIL.out; have h9 := HN8.out; rw [List.length_replicate]; omega); intro v40 w20 ho hb hg hat; replace HM := Aside0.mk hb; clear S6 R8 hz0 hz1 hf0 hf1; rw [← List.replicate_succ'] at ho; have S6 := Aside0.mk ho; clear ho hb hg hat)
          go_roundg (n - i - 1)
          case measure => exact Nat.lt_of_lt_of_le (iz9 HI.out) HGI.out
          case rel => exact ⟨i + 1, congrArg (Value.int .i64) (iz7 HI.out HN8.out), HI.out, Nat.le_refl _, S6, HM⟩
    · have hiz := DL (iz5 hi)
      have hq1 := eq_false (iz5 hi); have hq2 := eq_false hi
      have ei := iz6 hi hil
      rw [ei, ← mat_cst] at S6
      clear hi hil hgi ei
      obtain ⟨aC, cC, eC_⟩ := S_some S5.out HN1.out
      subst eC_
      obtain ⟨aV, cV, eV_⟩ := S_some S6.out HN1.out
      subst eV_
      obtain ⟨mid, hmid⟩ : ∃ mid, mid = w7.heap.size := ⟨_, rfl⟩
      have RK : Aside0 (RkW w [(gb2, #[.int .i64 (n : Int), .slice A0_1 l0_1.length c0_1], 35), (gb4, #[.slice none 0 0, .slice none 0 0, .slice none 0 0], 37)] [] 0 mid aC cC aV cV n (arcS l0_1) wr) := ⟨⟨Kd.S_mono (Kd.S_below S5.out HM.out) (fun k hk => ⟨Nat.zero_le _, by rw [hmid]; exact hk⟩), Kd.S_lower (Kd.S_mono (Kd.S_bound S6.out) (fun k hk => by rw [hmid]; exact hk.2.1)) (below_size HB.out), fun p hp => absurd hp (List.not_mem_nil), by
        intro p hp
        simp only [List.mem_cons, List.not_mem_nil, or_false] at hp
        rcases hp with rfl | rfl
        · exact ⟨show (35 : Nat) ≠ 3 by decide, show (35 : Nat) ≠ 25 by decide, blk_below BK2.out HM.out⟩
        · exact ⟨show (37 : Nat) ≠ 3 by decide, show (37 : Nat) ≠ 25 by decide, blk_below BK4.out HM.out⟩, below_step HB.out HM.out⟩⟩
      clear S5 S6 HM HB BK2 BK4 hmid
      go_wp2
      clear hz0 hz1 hf0 hf1 hiz hq1 hq2 BK2_
      go_loopg [10] l1.length (fun gg s10 wr => ∃ i : Nat, s10 = .int .i64 (i : Int) ∧ i ≤ l1.length ∧ l1.length - i ≤ gg ∧ Aside0 (RkW w [(gb2, #[.int .i64 (n : Int), .slice A0_1 l0_1.length c0_1], 35), (gb4, #[.slice none 0 0, .slice none 0 0, .slice none 0 0], 37)] [] 0 mid aC cC aV cV n (ndS l1 (arcS l0_1) i) wr))
      case atStart => exact ⟨0, rfl, Nat.zero_le _, Nat.le_refl _, RK⟩
      case round =>
        clear RK
        obtain ⟨i, rfl, hil, hgi, RK⟩ := hrel
        by_cases hi : i < l1.length
        · have hiz := dl (iz3 hi)
          have hx9 := HRD.out (i : Int) (iz4 i) (iz3 hi)
          have hB_ := Aside0.mk RK.out.hB
          replace hx9 := uc hB_ hx9
          simp only [Int.toNat_natCast] at hx9
          have p1 := eq_true (iz4 i)
          have p2 := eq_true (iz3 hi)
          have hm := HIN.out (rd l1 (i : Int)) (by rw [rd_at0 l1 i hi]; exact List.getElem_mem hi)
          have HM0 := Aside0.mk hm.1; have HM1 := Aside0.mk hm.2
          have HI := Aside0.mk hi
          have HIL := Aside0.mk hil
          have HGI := Aside0.mk hgi
          obtain ⟨m, hm_⟩ : ∃ m, rd l1 (i : Int) = m := ⟨_, rfl⟩
          rw [hm_] at hx9 HM0 HM1
          have HMD := Aside0.mk hm_
          clear hm hm_ hi hil hgi hB_
          go_wp2
          go_loopg [12] (l1.length - (i + 1)) (fun gg s12 wr => ∃ x p : Nat, s12 = .int .i64 (p : Int) ∧ p = i + 1 + x ∧ x ≤ l1.length - (i + 1) ∧ l1.length - (i + 1) - x ≤ gg ∧ Aside0 (RkW w [(gb2, #[.int .i64 (n : Int), .slice A0_1 l0_1.length c0_1], 35), (gb4, #[.slice none 0 0, .slice none 0 0, .slice none 0 0], 37)] [] 0 mid aC cC aV cV n (rwS l1 (ndS l1 (arcS l0_1) i) i x) wr))
          case atStart => exact ⟨0, i + 1, congrArg (Value.int .i64) (iz7 HI.out HL8.out), rfl, Nat.zero_le _, Nat.le_refl _, RK⟩
          case round =>
            clear RK hx9 hiz p2
            obtain ⟨x, p, rfl, hpx, hxl, hgx, RK⟩ := hrel
            by_cases hx : p < l1.length
            · have hxz := dl (iz3 hx)
              have hxL : x < l1.length - (i + 1) := by rw [hpx] at hx; exact iz12 hx
              have hx10 := HRD.out (p : Int) (iz4 _) (iz3 hx)
              rw [Int.toNat_natCast] at hx10
              have hB_ := Aside0.mk RK.out.hB
              replace hx10 := uc hB_ hx10
              have q1 := eq_true (iz4 p)
              have q2 := eq_true (iz3 hx)
              have ha := HIN.out (rd l1 (p : Int)) (by rw [rd_at0 l1 _ hx]; exact List.getElem_mem hx)
              have hsx := rwS_succ l1 (ndS l1 (arcS l0_1) i) i x (hpx ▸ hx)
              rw [← hpx] at hsx
              obtain ⟨a, ha_⟩ : ∃ a, rd l1 (p : Int) = a := ⟨_, rfl⟩
              rw [ha_] at ha hsx
              rw [HMD.out] at hsx
              have HAD := Aside0.mk ha_
              have HA0 := Aside0.mk ha.1; have HA1 := Aside0.mk ha.2
              have HX := Aside0.mk hxL; have HP_ := Aside0.mk hx; have HXL := Aside0.mk hxl; have HGX := Aside0.mk hgx; have HSX := Aside0.mk hsx; have HPX := Aside0.mk hpx
              rw [ha_] at hx10
              have HX10 := Aside0.mk (show w.cell? (ad1.add p) = some (.int .i64 a) by rw [← ha_]; have := HRD.out (p : Int) (iz4 _) (iz3 hx); rwa [Int.toNat_natCast] at this)
              clear hx hxL ha ha_ hsx hB_ hxl hgx hpx
              go_wp2
              clear hx10
              go_loopg [13] (l1.length - (i + 1)) (fun gg s13 wr => ∃ y q : Nat, s13 = .int .i64 (q : Int) ∧ q = i + 1 + y ∧ y ≤ l1.length - (i + 1) ∧ l1.length - (i + 1) - y ≤ gg ∧ Aside0 (RkW w [(gb2, #[.int .i64 (n : Int), .slice A0_1 l0_1.length c0_1], 35), (gb4, #[.slice none 0 0, .slice none 0 0, .slice none 0 0], 37)] [] 0 mid aC cC aV cV n (abS l1 (rwS l1 (ndS l1 (arcS l0_1) i) i x) i a y) wr))
              case atStart => exact ⟨0, i + 1, congrArg (Value.int .i64) (iz7 HI.out HL8.out), rfl, Nat.zero_le _, Nat.le_refl _, RK⟩
              case round =>
                clear RK
                obtain ⟨y, q, rfl, hqy, hyl, hgy, RK⟩ := hrel
                by_cases hy : q < l1.length
                · have hyz := dl (iz3 hy)
                  have hyL : y < l1.length - (i + 1) := by rw [hqy] at hy; exact iz12 hy
                  have hx11 := HRD.out (q : Int) (iz4 _) (iz3 hy)
                  rw [Int.toNat_natCast] at hx11
                  have hB_ := Aside0.mk RK.out.hB
                  replace hx11 := uc hB_ hx11
                  have hx10 := uc hB_ HX10.out
                  have r1 := eq_true (iz4 q)
                  have r2 := eq_true (iz3 hy)
                  have hb := HIN.out (rd l1 (q : Int)) (by rw [rd_at0 l1 _ hy]; exact List.getElem_mem hy)
                  have hsy := abS_succ l1 (rwS l1 (ndS l1 (arcS l0_1) i) i x) i a y (hqy ▸ hy)
                  rw [← hqy] at hsy
                  obtain ⟨b, hb_⟩ : ∃ b, rd l1 (q : Int) = b := ⟨_, rfl⟩
                  rw [hb_] at hx11 hb hsy
                  rw [HMD.out] at hsy
                  have HB0 := Aside0.mk hb.1; have HB1 := Aside0.mk hb.2
                  have HY := Aside0.mk hyL; have HQ_ := Aside0.mk hy; have HYL := Aside0.mk hyl; have HGY := Aside0.mk hgy; have HSY := Aside0.mk hsy; have HQY := Aside0.mk hqy
                  have HBOX : Aside0 (Box (abS l1 (rwS l1 (ndS l1 (arcS l0_1) i) i x) i a y)) := ⟨abS_box (rwS_box (ndS_box HBX.out i) i x) i a y⟩
                  clear hy hyL hqy hb hb_ hsy hB_ hyl hgy
                  have HBAM := Aside0.mk (HBOX.out a m)
                  have HBMB := Aside0.mk (HBOX.out m b)
                  clear HBOX
                  obtain ⟨S, hS⟩ : ∃ S, (abS l1 (rwS l1 (ndS l1 (arcS l0_1) i) i x) i a y) = S := ⟨_, rfl⟩
                  rw [hS] at RK HSY HBAM HBMB
                  clear hS
                  obtain ⟨va, hva⟩ : ∃ va, S.1 a m = va := ⟨_, rfl⟩
                  obtain ⟨vb, hvb⟩ : ∃ vb, S.1 m b = vb := ⟨_, rfl⟩
                  obtain ⟨vc, hvc⟩ : ∃ vc, S.1 a b = vc := ⟨_, rfl⟩
                  rw [hva] at HBAM
                  rw [hvb] at HBMB
                  have HVA := Aside0.mk hva; have HVB := Aside0.mk hvb; have HVC := Aside0.mk hvc
                  clear hva hvb hvc
                  have hsum := va_sum HBAM.out HBMB.out
                  go_upto_region 24 with (fail)
                  clear hx11 hx10
                  replace RK := Aside0.mk RK.out.drew
                  have z0 := eq_true HA0.out; have z1 := eq_true HA1.out; have z2 := eq_true HB0.out; have z3 := eq_true HB1.out; have z4 := eq_true HM0.out; have z5 := eq_true HM1.out
                  obtain ⟨gA, cA, hxA, hcA⟩ := RK.out.hdC HA0.out HA1.out
                  obtain ⟨gM, cM, hxM, hcM⟩ := RK.out.hdC HM0.out HM1.out
                  have hAM := hcA m HM0.out HM1.out
                  have hAB := hcA b HB0.out HB1.out
                  have hMB := hcM b HB0.out HB1.out
                  rw [HVA.out] at hAM; rw [HVB.out] at hMB; rw [HVC.out] at hAB
                  clear hcA hcM
                  refine start_ (n := 48) (S := fun w' => w'.cell? (aC.add a.toNat) = some (.slice (some ⟨gA, 0, none⟩) n cA) ∧ w'.cell? (aC.add m.toNat) = some (.slice (some ⟨gM, 0, none⟩) n cM) ∧ w'.cell? ⟨gA, m.toNat, none⟩ = some (.int .i64 va) ∧ w'.cell? ⟨gM, b.toNat, none⟩ = some (.int .i64 vb) ∧ w'.cell? ⟨gA, b.toNat, none⟩ = some (.int .i64 vc)) (ds := []) (zt 48 0) (by kernel_rfl) rfl (by kernel_rfl) ⟨hxA, hxM, hAM, hMB, hAB⟩ (fun hHeld => ?_)
                  refine with_tabW mk24_tab mk24_bits (fun HT_ HW_ => ?_)
                  generalize wr.drew = w50 at RK hHeld hxA hxM hAM hAB hMB ⊢
                  by_cases c1 : a = b
                  · obtain ⟨c1b0, c1b1⟩ := dq c1
                    have HNX := Aside0.mk (HSY.out.trans (rkAB_no (fun h => h.1 c1)))
                    clear c1
                    refine qz HT_ 0 ?_; refine qz HT_ 1 ?_; refine qz HT_ 2 ?_; refine qz HT_ 3 ?_; refine qn HT_ 4 ?_; refine qn HT_ 5 ?_; refine qn HT_ 6 ?_; refine qn HT_ 7 ?_; refine qn HT_ 8 ?_; refine qn HT_ 9 ?_; refine qn HT_ 10 ?_; refine qn HT_ 11 ?_; refine qz HT_ 12 ?_; refine qz HT_ 13 ?_; refine qn HT_ 14 ?_; refine qn HT_ 15 ?_; refine qn HT_ 16 ?_; refine qn HT_ 17 ?_; refine qn HT_ 18 ?_; refine qn HT_ 19 ?_; refine qn HT_ 20 ?_; refine qn HT_ 21 ?_; refine qz HT_ 22 ?_; refine qz HT_ 23 ?_; refine qn HT_ 24 ?_; refine qn HT_ 25 ?_; refine qn HT_ 26 ?_; refine qn HT_ 27 ?_; refine qn HT_ 28 ?_; refine qn HT_ 29 ?_; refine qn HT_ 30 ?_; refine qn HT_ 31 ?_; refine qn HT_ 32 ?_; refine qn HT_ 33 ?_; refine qn HT_ 34 ?_; refine qn HT_ 35 ?_; refine qn HT_ 36 ?_; refine qn HT_ 37 ?_; refine qn HT_ 38 ?_; refine qn HT_ 39 ?_; refine qn HT_ 40 ?_; refine qn HT_ 41 ?_; refine qn HT_ 42 ?_; refine qn HT_ 43 ?_; refine qn HT_ 44 ?_; refine qn HT_ 45 ?_; refine qn HT_ 46 ?_; refine qz HT_ 47 ?_; refine done_ (done_of HT_.out (by kernel_rfl)) ?_
                    clear HT_ HW_ hHeld
                    try go_wp2
                    go_roundg (l1.length - (i + 1) - y - 1)
                    case measure => exact Nat.lt_of_lt_of_le (iz9 HY.out) HGY.out
                    case rel => exact ⟨y + 1, q + 1, congrArg (Value.int .i64) (iz7 HQ_.out HL8.out), iz13 HQY.out, HY.out, Nat.le_refl _, ⟨by rw [HNX.out]; exact RK.out⟩⟩
                  · obtain ⟨c1b0, c1b1⟩ := dQ c1
                    by_cases c2 : va < 99999
                    rotate_left
                    · have c2d := DL c2
                      have HNX := Aside0.mk (HSY.out.trans (rkAB_no (fun h => c2 (HVA.out ▸ h.2.1))))
                      clear c1 c2
                      refine qz HT_ 0 ?_; refine qz HT_ 1 ?_; refine qz HT_ 2 ?_; refine qz HT_ 3 ?_; refine qz HT_ 4 ?_; refine qz HT_ 5 ?_; refine qz HT_ 6 ?_; refine qt HT_ HW_ hHeld 7 ?_; refine qz HT_ 8 ?_; refine qz HT_ 9 ?_; refine qt HT_ HW_ hHeld 10 ?_; refine qz HT_ 11 ?_; refine qz HT_ 12 ?_; refine qz HT_ 13 ?_; refine qn HT_ 14 ?_; refine qn HT_ 15 ?_; refine qn HT_ 16 ?_; refine qn HT_ 17 ?_; refine qn HT_ 18 ?_; refine qn HT_ 19 ?_; refine qn HT_ 20 ?_; refine qn HT_ 21 ?_; refine qz HT_ 22 ?_; refine qz HT_ 23 ?_; refine qn HT_ 24 ?_; refine qn HT_ 25 ?_; refine qn HT_ 26 ?_; refine qn HT_ 27 ?_; refine qn HT_ 28 ?_; refine qn HT_ 29 ?_; refine qn HT_ 30 ?_; refine qn HT_ 31 ?_; refine qn HT_ 32 ?_; refine qn HT_ 33 ?_; refine qn HT_ 34 ?_; refine qn HT_ 35 ?_; refine qn HT_ 36 ?_; refine qn HT_ 37 ?_; refine qn HT_ 38 ?_; refine qn HT_ 39 ?_; refine qn HT_ 40 ?_; refine qn HT_ 41 ?_; refine qn HT_ 42 ?_; refine qn HT_ 43 ?_; refine qn HT_ 44 ?_; refine qn HT_ 45 ?_; refine qn HT_ 46 ?_; refine qz HT_ 47 ?_; refine done_ (done_of HT_.out (by kernel_rfl)) ?_
                      clear HT_ HW_ hHeld
                      try go_wp2
                      go_roundg (l1.length - (i + 1) - y - 1)
                      case measure => exact Nat.lt_of_lt_of_le (iz9 HY.out) HGY.out
                      case rel => exact ⟨y + 1, q + 1, congrArg (Value.int .i64) (iz7 HQ_.out HL8.out), iz13 HQY.out, HY.out, Nat.le_refl _, ⟨by rw [HNX.out]; exact RK.out⟩⟩
                    · have c2d := dl c2
                      by_cases c3 : vb < 99999
                      rotate_left
                      · have c3d := DL c3
                        have HNX := Aside0.mk (HSY.out.trans (rkAB_no (fun h => c3 (HVB.out ▸ h.2.2.1))))
                        clear c1 c2 c3
                        refine qz HT_ 0 ?_; refine qz HT_ 1 ?_; refine qz HT_ 2 ?_; refine qz HT_ 3 ?_; refine qz HT_ 4 ?_; refine qz HT_ 5 ?_; refine qz HT_ 6 ?_; refine qt HT_ HW_ hHeld 7 ?_; refine qz HT_ 8 ?_; refine qz HT_ 9 ?_; refine qt HT_ HW_ hHeld 10 ?_; refine qz HT_ 11 ?_; refine qz HT_ 12 ?_; refine qz HT_ 13 ?_; refine qz HT_ 14 ?_; refine qz HT_ 15 ?_; refine qz HT_ 16 ?_; refine qt HT_ HW_ hHeld 17 ?_; refine qz HT_ 18 ?_; refine qz HT_ 19 ?_; refine qt HT_ HW_ hHeld 20 ?_; refine qz HT_ 21 ?_; refine qz HT_ 22 ?_; refine qz HT_ 23 ?_; refine qn HT_ 24 ?_; refine qn HT_ 25 ?_; refine qn HT_ 26 ?_; refine qn HT_ 27 ?_; refine qn HT_ 28 ?_; refine qn HT_ 29 ?_; refine qn HT_ 30 ?_; refine qn HT_ 31 ?_; refine qn HT_ 32 ?_; refine qn HT_ 33 ?_; refine qn HT_ 34 ?_; refine qn HT_ 35 ?_; refine qn HT_ 36 ?_; refine qn HT_ 37 ?_; refine qn HT_ 38 ?_; refine qn HT_ 39 ?_; refine qn HT_ 40 ?_; refine qn HT_ 41 ?_; refine qn HT_ 42 ?_; refine qn HT_ 43 ?_; refine qn HT_ 44 ?_; refine qn HT_ 45 ?_; refine qn HT_ 46 ?_; refine qz HT_ 47 ?_; refine done_ (done_of HT_.out (by kernel_rfl)) ?_
                        clear HT_ HW_ hHeld
                        try go_wp2
                        go_roundg (l1.length - (i + 1) - y - 1)
                        case measure => exact Nat.lt_of_lt_of_le (iz9 HY.out) HGY.out
                        case rel => exact ⟨y + 1, q + 1, congrArg (Value.int .i64) (iz7 HQ_.out HL8.out), iz13 HQY.out, HY.out, Nat.le_refl _, ⟨by rw [HNX.out]; exact RK.out⟩⟩
                      · have c3d := dl c3
                        by_cases c4 : va + vb < vc
                        rotate_left
                        · have c4d := DL c4
                          have HNX := Aside0.mk (HSY.out.trans (rkAB_no (fun h => by have h9 := h.2.2.2; rw [HVA.out, HVB.out, HVC.out] at h9; exact c4 h9)))
                          clear c1 c2 c3 c4
                          refine qz HT_ 0 ?_; refine qz HT_ 1 ?_; refine qz HT_ 2 ?_; refine qz HT_ 3 ?_; refine qz HT_ 4 ?_; refine qz HT_ 5 ?_; refine qz HT_ 6 ?_; refine qt HT_ HW_ hHeld 7 ?_; refine qz HT_ 8 ?_; refine qz HT_ 9 ?_; refine qt HT_ HW_ hHeld 10 ?_; refine qz HT_ 11 ?_; refine qz HT_ 12 ?_; refine qz HT_ 13 ?_; refine qz HT_ 14 ?_; refine qz HT_ 15 ?_; refine qz HT_ 16 ?_; refine qt HT_ HW_ hHeld 17 ?_; refine qz HT_ 18 ?_; refine qz HT_ 19 ?_; refine qt HT_ HW_ hHeld 20 ?_; refine qz HT_ 21 ?_; refine qz HT_ 22 ?_; refine qz HT_ 23 ?_; refine qz HT_ 24 ?_; refine qz HT_ 25 ?_; refine qz HT_ 26 ?_; refine qt HT_ HW_ hHeld 27 ?_; refine qz HT_ 28 ?_; refine qz HT_ 29 ?_; refine qt HT_ HW_ hHeld 30 ?_; refine qz HT_ 31 ?_; refine qz HT_ 32 ?_; refine qz HT_ 33 ?_; refine qt HT_ HW_ hHeld 34 ?_; refine qz HT_ 35 ?_; refine qz HT_ 36 ?_; refine qt HT_ HW_ hHeld 37 ?_; refine qz HT_ 38 ?_; refine qz HT_ 39 ?_; refine qz HT_ 40 ?_; refine qz HT_ 41 ?_; refine qt HT_ HW_ hHeld 42 ?_; refine qz HT_ 43 ?_; refine qz HT_ 44 ?_; refine qt HT_ HW_ hHeld 45 ?_; refine qz HT_ 46 ?_; refine qz HT_ 47 ?_; refine done_ (done_of HT_.out (by kernel_rfl)) ?_
                          clear HT_ HW_ hHeld
                          try go_wp2
                          go_roundg (l1.length - (i + 1) - y - 1)
                          case measure => exact Nat.lt_of_lt_of_le (iz9 HY.out) HGY.out
                          case rel => exact ⟨y + 1, q + 1, congrArg (Value.int .i64) (iz7 HQ_.out HL8.out), iz13 HQY.out, HY.out, Nat.le_refl _, ⟨by rw [HNX.out]; exact RK.out⟩⟩
                        · have c4d := dl c4
                          have HNX := Aside0.mk (HSY.out.trans (rkAB_yes ⟨c1, by rw [HVA.out]; exact c2, by rw [HVB.out]; exact c3, by rw [HVA.out, HVB.out, HVC.out]; exact c4⟩))
                          rw [HVA.out, HVB.out] at HNX
                          clear c1 c2 c3 c4
                          refine qz HT_ 0 ?_; refine qz HT_ 1 ?_; refine qz HT_ 2 ?_; refine qz HT_ 3 ?_; refine qz HT_ 4 ?_; refine qz HT_ 5 ?_; refine qz HT_ 6 ?_; refine qt HT_ HW_ hHeld 7 ?_; refine qz HT_ 8 ?_; refine qz HT_ 9 ?_; refine qt HT_ HW_ hHeld 10 ?_; refine qz HT_ 11 ?_; refine qz HT_ 12 ?_; refine qz HT_ 13 ?_; refine qz HT_ 14 ?_; refine qz HT_ 15 ?_; refine qz HT_ 16 ?_; refine qt HT_ HW_ hHeld 17 ?_; refine qz HT_ 18 ?_; refine qz HT_ 19 ?_; refine qt HT_ HW_ hHeld 20 ?_; refine qz HT_ 21 ?_; refine qz HT_ 22 ?_; refine qz HT_ 23 ?_; refine qz HT_ 24 ?_; refine qz HT_ 25 ?_; refine qz HT_ 26 ?_; refine qt HT_ HW_ hHeld 27 ?_; refine qz HT_ 28 ?_; refine qz HT_ 29 ?_; refine qt HT_ HW_ hHeld 30 ?_; refine qz HT_ 31 ?_; refine qz HT_ 32 ?_; refine qz HT_ 33 ?_; refine qt HT_ HW_ hHeld 34 ?_; refine qz HT_ 35 ?_; refine qz HT_ 36 ?_; refine qt HT_ HW_ hHeld 37 ?_; refine qz HT_ 38 ?_; refine qz HT_ 39 ?_; refine qz HT_ 40 ?_; refine qz HT_ 41 ?_; refine qt HT_ HW_ hHeld 42 ?_; refine qz HT_ 43 ?_; refine qz HT_ 44 ?_; refine qt HT_ HW_ hHeld 45 ?_; refine qz HT_ 46 ?_; refine qz HT_ 47 ?_; refine done_ (done_of HT_.out (by kernel_rfl)) ?_
                          clear HT_ HW_ hHeld
                          try go_wp2
                          clear hxA hxM hAM hAB hMB
                          replace RK := Aside0.mk RK.out.drew
                          obtain ⟨gA, cA, hxA, hcA⟩ := RK.out.hdC HA0.out HA1.out
                          obtain ⟨gM, cM, hxM, hcM⟩ := RK.out.hdC HM0.out HM1.out
                          have hAM := hcA m HM0.out HM1.out
                          have hAB := hcA b HB0.out HB1.out
                          have hMB := hcM b HB0.out HB1.out
                          rw [HVA.out] at hAM; rw [HVB.out] at hMB
                          clear hcA hcM
                          have hput := RK.out.putC HA0.out HA1.out HB0.out HB1.out hxA (va + vb)
                          have hfA := hput.1
                          have RK1 := Aside0.mk hput.2
                          clear hput
                          refine start_ (n := 22) (S := fun w' => w'.cell? (aC.add a.toNat) = some (.slice (some ⟨gA, 0, none⟩) n cA) ∧ w'.cell? (aC.add m.toNat) = some (.slice (some ⟨gM, 0, none⟩) n cM) ∧ w'.cell? ⟨gA, m.toNat, none⟩ = some (.int .i64 va) ∧ w'.cell? ⟨gM, b.toNat, none⟩ = some (.int .i64 vb)) (ds := [21]) (zt 22 0) (by kernel_rfl) rfl (by kernel_rfl) ⟨hxA, hxM, hAM, hMB⟩ (fun hHeld => ?_)
                          refine with_tabW mk25_tab mk25_bits (fun HT_ HW_ => ?_)
                          generalize w50.drew = w51 at RK RK1 hHeld hxA hAB hfA ⊢
                          refine qz HT_ 0 ?_; refine qz HT_ 1 ?_; refine qz HT_ 2 ?_; refine qt HT_ HW_ hHeld 3 ?_; refine qz HT_ 4 ?_; refine qz HT_ 5 ?_; refine qz HT_ 6 ?_; refine qz HT_ 7 ?_; refine qt HT_ HW_ hHeld 8 ?_; refine qz HT_ 9 ?_; refine qz HT_ 10 ?_; refine qt HT_ HW_ hHeld 11 ?_; refine qz HT_ 12 ?_; refine qz HT_ 13 ?_; refine qz HT_ 14 ?_; refine qt HT_ HW_ hHeld 15 ?_; refine qz HT_ 16 ?_; refine qz HT_ 17 ?_; refine qt HT_ HW_ hHeld 18 ?_; refine qz HT_ 19 ?_; refine qz HT_ 20 ?_
                          refine last_ (i := 21) (N := none) (zt 22 4194303) rfl rfl (one_of HT_.out (by kernel_rfl)) (by decide) (fun K hK => ?_); refine skip_ (w1 := ?_) (by rfl) rfl ?_ ?_; rotate_left
                          · go_simp; rfl
                          refine hK.out _ _ ?_; clear hK K; refine done_ (done_of HT_.out (by kernel_rfl)) ?_
                          clear HT_ HW_ hHeld RK hxA hxM hAM hAB hMB hfA
                          generalize w51.setCell ⟨gA, b.toNat, none⟩ (.int .i64 (va + vb)) = w52 at RK1 ⊢
                          obtain ⟨gV, cV_, hxV, hcV⟩ := RK1.out.hdV HA0.out HA1.out
                          have hVB := hcV b HB0.out HB1.out
                          have hput := RK1.out.putV HA0.out HA1.out HB0.out HB1.out (Nat.zero_le _) hxV m
                          have hfV := hput.1
                          have RK2 := Aside0.mk hput.2
                          clear hput hcV
                          go_wp2
                          go_roundg (l1.length - (i + 1) - y - 1)
                          case measure => exact Nat.lt_of_lt_of_le (iz9 HY.out) HGY.out
                          case rel => exact ⟨y + 1, q + 1, congrArg (Value.int .i64) (iz7 HQ_.out HL8.out), iz13 HQY.out, HY.out, Nat.le_refl _, ⟨by rw [HNX.out]; exact RK2.out⟩⟩
                · have hyz := DL (iz5 hy)
                  have hq1 := eq_false (iz5 hy); have hq2 := eq_false hy
                  have ey := iz14 hqy hy hyl
                  rw [ey] at RK
                  have hab := abS_all l1 (rwS l1 (ndS l1 (arcS l0_1) i) i x) i a
                  rw [HMD.out] at hab
                  have HNX := Aside0.mk (HSX.out.trans hab.symm)
                  clear hab hy hyl hgy ey hqy
                  go_wp2
                  go_roundg (l1.length - (i + 1) - x - 1)
                  case measure => exact Nat.lt_of_lt_of_le (iz9 HX.out) HGX.out
                  case rel => exact ⟨x + 1, p + 1, congrArg (Value.int .i64) (iz7 HP_.out HL8.out), iz13 HPX.out, HX.out, Nat.le_refl _, ⟨by rw [HNX.out]; exact RK.out⟩⟩
            · have hxz := DL (iz5 hx)
              have hq1 := eq_false (iz5 hx); have hq2 := eq_false hx
              have ex := iz14 hpx hx hxl
              rw [ex] at RK
              have hrw := rwS_all l1 (ndS l1 (arcS l0_1) i) i
              have HNX := Aside0.mk (show ndS l1 (arcS l0_1) (i + 1) = rwS l1 (ndS l1 (arcS l0_1) i) i (l1.length - (i + 1)) from hrw.symm)
              clear hrw hx hxl hgx ex hpx
              go_wp2
              go_roundg (l1.length - i - 1)
              case measure => exact Nat.lt_of_lt_of_le (iz9 HI.out) HGI.out
              case rel => exact ⟨i + 1, congrArg (Value.int .i64) (iz7 HI.out HL8.out), HI.out, Nat.le_refl _, ⟨by rw [HNX.out]; exact RK.out⟩⟩
        · have hiz := DL (iz5 hi)
          have hq1 := eq_false (iz5 hi); have hq2 := eq_false hi
          have ei := iz6 hi hil
          rw [ei] at RK
          have hnd := ndS_all l1 (arcS l0_1)
          rw [hnd] at RK
          clear hnd hi hil hgi ei
          have BK4 : Aside0 (wr.heap[gb4]? = some (.cells #[.slice none 0 0, .slice none 0 0, .slice none 0 0] 37 (0, 0))) := ⟨(RK.out.hX (gb4, #[.slice none 0 0, .slice none 0 0, .slice none 0 0], 37) (by simp)).2.2⟩
          obtain ⟨hy0, hy1, hy2, hg0, hg1, hg2⟩ := bc3 BK4
          go_wp2_with (first | ((with_reducible refine gate_dst (N := 151) rfl ?_); refine Kd.R_lit (Kd.int .i64) _ 3 ?hg (N := 151) ?hd (xs := ([] : List Int)) (inner := []) (ok := fun _ => True) (okp := fun _ => True) ?hr ?hp (fun _ hk => hk) trivial (Below.refl _ _) (Nat.le_refl _) (by simp) ?_; (case hd => rfl); (case hg => rfl); (case hr => first | (go_simp; done) | (go_simp; rfl)); (case hp => exact (Reps.none _ _)); intro v151 w61 ho hb hg_ hnew_; clear hg_ hnew_; have RO := Aside0.mk ho; have HM := Aside0.mk hb; clear ho hb) | ((with_reducible refine gate_builtin (b := .append) (xs := #[.tmp 151, .tmp 152]) rfl ?_); at_builtin; refine Kd.R_append_rows (Kd.int .i64) (w0 := wr) wr.heap.size rfl (.tmp 151) (.tmp 152) 25 3 (.int .i64 0) 8 rfl Try.underlying25 info3 rfl (by decide) (by omega) v151 [] l1 _ _ _ (fun _ => True) (fun _ => False) rfl rfl ?aO ?aR (fun _ _ h => h) (fun _ h => h.elim) ?aF ?aB ?aS ?aL ?_; (case aR => exact Kd.C_below (Kd.C_below HR1.out RK.out.hB) HM.out); (case aB => exact HM.out); (case aF => exact (fun _ _ => trivial)); (case aO => exact RO.out); (case aS => exact (below_size HM.out)); (case aL => have := HL8.out; simp only [List.length_nil]; omega); intro v153 w62 ho hb hg hat; clear hg hat RO; rw [List.nil_append] at ho; have RO := Aside0.mk ho; replace HM := Aside0.mk hb; clear ho hb; replace BK4 := Aside0.mk (blk_below BK4.out HM.out); clear hy0 hy1 hy2 hg0 hg1 hg2; obtain ⟨hy0, hy1, hy2, hg0, hg1, hg2⟩ := bc3 BK4; obtain ⟨Ao, co, eo⟩ := Kd.R_slice RO.out; subst eo))
          have HF := Aside0.mk (RK.out.finish2 HM.out RO.out BK4.out GE4.out (.slice Ao l1.length co) (.slice (some aC) n cC) (.slice (some aV) n cV))
          refine bodyPost_ret (results_cell_row rfl _ _ gb4 37 #[.slice Ao l1.length co, .slice (some aC) n cC, .slice (some aV) n cV] (0, 0) _ rfl (pu3 _ _ _ BK4.out) Try.underlying37 rfl (by kernel_rfl)) rfl ?_
          exact ⟨_, _, _, mid, _, rfl, HF.out.1, HF.out.2.1, HF.out.2.2.1, HF.out.2.2.2⟩
set_option maxHeartbeats 8000000 in
set_option maxRecDepth 100000 in
theorem spec_l8Make.calls (a0_0 : Int) (A0_1 : Option Addr) (c0_1 : Nat) (l0_1 : List S61) (A1 : Option Addr) (c1 : Nat) (l1 : List Int) (r1 : List Int) (r2 r3 : List (List Int)) (w : World) (hr0_1 : Kd.C k61 w A0_1 l0_1.length l0_1) (hc0_1 : l0_1.length ≤ c0_1) (hr1 : Kd.C (Kd.int .i64) w A1 l1.length l1) (hc1 : l1.length ≤ c1) (h : spec_l8Make.f a0_0 l0_1 l1 = some (r1, r2, r3)) :
    Calls Try.prog 68 #[.agg #[.int .i64 a0_0, .slice A0_1 l0_1.length c0_1], .slice A1 l1.length c1] w fun e w' => ∃ v0_ v1_ v2_ : Value, e = .returned (.agg #[v0_, v1_, v2_]) ∧ Kd.R (Kd.int .i64) 3 w' w.heap.size (fun _ => True) v0_ r1 ∧ Kd.S (Kd.slice 3 (Kd.int .i64)) 25 w' w.heap.size (fun k_ => some k_ ≠ (v0_ : Value).ownBlock ∧ some k_ ≠ (v2_ : Value).ownBlock) v1_ r2 ∧ Kd.S (Kd.slice 3 (Kd.int .i64)) 25 w' w.heap.size (fun k_ => some k_ ≠ (v0_ : Value).ownBlock ∧ some k_ ≠ (v1_ : Value).ownBlock) v2_ r3 ∧ Below w.heap.size w w' := by
  refine (spec_l8Make.callsW a0_0 A0_1 c0_1 l0_1 A1 c1 l1 r1 r2 r3 w hr0_1 hc0_1 hr1 hc1 h).mono ?_
  rintro e w' ⟨v0, v1, v2, mid, hi, rfl, h0, h1, h2, hb⟩
  have e0 : ∀ k, some k = v0.ownBlock → hi ≤ k := fun k e => h0.1 k e.symm
  have e1 : ∀ k, some k = v1.ownBlock → k < mid ∧ k < hi := fun k e => (Kd.S_R h1).1 k e.symm
  have e2 : ∀ k, some k = v2.ownBlock → mid ≤ k ∧ k < hi := fun k e => (Kd.S_R h2).1 k e.symm
  refine ⟨v0, v1, v2, rfl, Kd.R_mono h0 (fun _ _ => trivial), Kd.S_mono h1 (fun k hk => ⟨fun e => ?_, fun e => ?_⟩), Kd.S_mono h2 (fun k hk => ⟨fun e => ?_, fun e => ?_⟩), hb⟩
  · have := e0 k e; omega
  · have := e2 k e; omega
  · have := e0 k e; omega
  · have := e1 k e; omega
end Go.Proofs.Ytdlaaccnaokdnaa.P
