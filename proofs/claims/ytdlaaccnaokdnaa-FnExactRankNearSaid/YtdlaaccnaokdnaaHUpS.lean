/- Contract: spec.l8Up, by hand: what it costs to go up from a node. -/
import Derived.Test.YtdlaaccnaokdnaaHClimb
import Derived.Test.YtdlaaccnaokdnaaHPerm
import Derived.Test.YtdlaaccnaokdnaaPFSpecL8Rank
set_option linter.unusedVariables false
set_option linter.unusedSimpArgs false
namespace Go.Proofs.Ytdlaaccnaokdnaa.P
open Go.RowKit Go.Proofs.Ytdlaaccnaokdnaa.M Go.Proofs.YtdlaaccnaokdnaaV.PrintWords Go.Proofs.YtdlaaccnaokdnaaV.PrintLast Go.Proofs.YtdlaaccnaokdnaaV.PrintMore
def up18_T : Bool × List (List Nat × List Nat) := (true, [([], []), ([], []), ([0, 1], [0, 1]), ([2], [2]), ([3], [3]), ([4], [4]), ([5], [5]), ([6, 5], [5, 6]), ([5, 7], [5, 7]), ([8, 5], [8]), ([9], [9]), ([9], [9]), ([10, 11, 9], [9, 10, 11]), ([12, 9], [9, 12]), ([9], [9]), ([13, 14, 9], [9, 13, 14]), ([9], [9]), ([9], [9]), ([16, 17, 9], [9, 16, 17]), ([18, 9], [9, 18]), ([15, 19, 9], [9, 15, 19]), ([9, 20], [9, 20])])
def up18_B : List Nat := [0, 0, 3, 7, 15, 31, 63, 127, 255, 511, 1023, 1023, 4095, 8191, 1023, 32767, 1023, 1023, 197631, 459775, 1048575, 2097151]
theorem up18_tab : rtab .any (opsOf Try.f92 18) = up18_T := by kernel_rfl
theorem up18_bits : waitsOk up18_T.2 up18_B = true := by kernel_rfl
def spec_l8Up.f (o : List Int) (c v : List (List Int)) (s : Int) (back : Bool) : Option (List Int) := if UpOk o c s then some (rowF o.length (clAll (pickK back (tb c)) o (at0 s))) else none
theorem up_put {n j : Nat} (x : Int) (hj : j < n) : (List.replicate j x ++ List.replicate (n - j) 0).set (j : Int).toNat x = List.replicate (j + 1) x ++ List.replicate (n - (j + 1)) 0 := by
  rw [show n - j = (n - (j + 1)) + 1 from by omega, List.replicate_succ, Int.toNat_natCast, List.set_append]
  simp [List.replicate_succ']
theorem up_len {n j : Nat} (x : Int) (hj : j ≤ n) : (List.replicate j x ++ List.replicate (n - j) 0).length = n := by simp; omega
theorem CW.below {w wr w1 : World} {gb3 : Nat} {cs : Array Value} {g7 c7 n : Nat} {d : Int → Int} (h : CW w gb3 cs g7 c7 n d wr) (hb : Below wr.heap.size wr w1) : CW w gb3 cs g7 c7 n d w1 := ⟨Kd.R_below h.R7 hb, blk_below h.K3 hb, below_step h.B hb⟩
theorem ord_mem {o : List Int} {n : Int} (h : Ord o n) {x : Int} (hx : 0 ≤ x ∧ x < n) : x ∈ o := by
  obtain ⟨h1, h2⟩ := ord_sorted.1 h
  have h3 := h2 x.toNat (by omega)
  have h4 : x.toNat < (srt o).length := by rw [srt_len]; omega
  rw [rd_at0 _ _ h4] at h3
  have h5 := List.getElem_mem h4
  rw [h3] at h5
  have h6 := (List.mergeSort_perm o (fun x y => decide (x ≤ y))).mem_iff.1 h5
  rwa [show ((x.toNat : Nat) : Int) = x from by omega] at h6
theorem l8Rank_at {o : List Int} (hl : o.length ≤ 8) {s : Int} (hs : s ∈ o) : ∃ p : Nat, p < o.length ∧ (∀ j (hj : j < o.length), j < p → o[j] ≠ s) ∧ ∃ k, spec_l8Rank.f k o s = some (p : Int) := by
  have key : ∀ (d i : Nat), i + d = o.length → (∀ j (hj : j < o.length), j < i → o[j] ≠ s) → ∃ p : Nat, p < o.length ∧ (∀ j (hj : j < o.length), j < p → o[j] ≠ s) ∧ ∃ k, spec_l8Rank.l0 k o s (i : Int) = some (p : Int) := by
    intro d
    induction d with
    | zero =>
      intro i hi h
      obtain ⟨j, hj, e⟩ := List.getElem_of_mem hs
      exact absurd e (h j hj (by omega))
    | succ d ih =>
      intro i hi h
      by_cases e : o[i] = s
      · refine ⟨i, by omega, h, 1, ?_⟩
        simp only [spec_l8Rank.l0]
        rw [if_pos (by omega), if_pos (by omega), rd_at0 o i (by omega), if_pos e]
      · obtain ⟨p, h1, h2, k, h3⟩ := ih (i + 1) (by omega) (fun j hj hji => by
          rcases Nat.lt_or_ge j i with h4 | h4
          · exact h j hj h4
          · have e2 : j = i := by omega
            subst e2; exact e)
        refine ⟨p, h1, h2, k + 1, ?_⟩
        simp only [spec_l8Rank.l0]
        rw [if_pos (by omega), if_pos (by omega), rd_at0 o i (by omega), if_neg e, show wrap64 ((i : Int) + 1) = ((i + 1 : Nat) : Int) from by unfold wrap64; omega]
        exact h3
  exact key o.length 0 (by omega) (fun j _ h => absurd h (Nat.not_lt_zero j))
theorem iz12u {i x l : Nat} (h : i + 1 + x < l) : x < l - (i + 1) := by omega
theorem iz13u {q i y : Nat} (h : q = i + 1 + y) : q + 1 = i + 1 + (y + 1) := by omega
theorem iz14u {q i y l : Nat} (h : q = i + 1 + y) (hq : ¬ q < l) (hy : y ≤ l - (i + 1)) : y = l - (i + 1) := by omega
set_option maxHeartbeats 8000000 in
set_option maxRecDepth 100000 in
theorem spec_l8Up.calls (A0_0 : Option Addr) (c0_0 : Nat) (l1 : List Int) (A0_1 : Option Addr) (c0_1 : Nat) (l0_1 : List (List Int)) (A0_2 : Option Addr) (c0_2 : Nat) (l0_2 : List (List Int)) (a1 : Int) (a2 : Bool) (r : List Int) (w : World) (hr0_0 : Kd.C (Kd.int .i64) w A0_0 l1.length l1) (hc0_0 : l1.length ≤ c0_0) (hr0_1 : Kd.C (Kd.slice 3 (Kd.int .i64)) w A0_1 l0_1.length l0_1) (hc0_1 : l0_1.length ≤ c0_1) (hr0_2 : Kd.C (Kd.slice 3 (Kd.int .i64)) w A0_2 l0_2.length l0_2) (hc0_2 : l0_2.length ≤ c0_2) (h : spec_l8Up.f l1 l0_1 l0_2 a1 a2 = some r) :
    Calls Try.prog 92 #[.agg #[.slice A0_0 l1.length c0_0, .slice A0_1 l0_1.length c0_1, .slice A0_2 l0_2.length c0_2], .int .i64 a1, .bool a2] w fun e w' => ∃ v0_ : Value, e = .returned (v0_) ∧ Kd.R (Kd.int .i64) 3 w' w.heap.size (fun _ => True) v0_ r ∧ Below w.heap.size w w' := by
  have hu37 := Try.underlying37
  unfold spec_l8Up.f at h
  by_cases hok : UpOk l1 l0_1 a1
  rotate_left
  · rw [if_neg hok] at h; cases h
  rw [if_pos hok] at h
  have e := Option.some.inj h
  subst e
  obtain ⟨hord, ⟨hn1, hn8⟩, hmat, hs, hbd⟩ := hok
  have hbx := tb_bx hbd
  obtain ⟨p0, hp0, hpre, kR, hkR⟩ := l8Rank_at hn8 (ord_mem hord hs)
  obtain ⟨n, hn⟩ : ∃ n : Nat, l1.length = n := ⟨_, rfl⟩
  obtain ⟨C, hC⟩ : ∃ C, tb l0_1 = C := ⟨_, rfl⟩
  rw [hn, hC] at hmat
  rw [hC] at hbx ⊢
  subst hmat
  rw [mat_len] at hr0_1 hc0_1
  have HB := Aside0.mk (Below.refl w.heap.size w)
  have HR1 := Aside0.mk hr0_0
  have HC1 := Aside0.mk hc0_0
  obtain ⟨ad1, ea1, _⟩ := Kd.at_int hr0_0 0 (by omega) (by omega)
  subst ea1
  have HRD := Aside0.mk (show ∀ i : Int, 0 ≤ i → i < l1.length → w.cell? (ad1.add i.toNat) = some (.int .i64 (rd l1 i)) from fun i h0 h1 => by
    obtain ⟨a, e, h⟩ := Kd.at_int hr0_0 i h0 h1
    cases e
    exact h)
  obtain ⟨adC, _, _, eaC, _, _, _⟩ := at_L5 hr0_1 0 (by omega) (by omega)
  subst eaC
  have HRC := Aside0.mk (show ∀ a : Int, 0 ≤ a → a < n → ∃ (ada : Addr) (ca : Nat), w.cell? (adC.add a.toNat) = some (.slice (some ada) n ca) ∧ ∀ b : Int, 0 ≤ b → b < n → w.cell? (ada.add b.toNat) = some (.int .i64 (C a b)) from fun a a0 a1 => by
    obtain ⟨ad, A, c, e, hx, hl, hi⟩ := at_L5 hr0_1 a a0 a1
    cases e
    rw [mat_row_len C a0 a1] at hx hi
    rw [rd_mat C a0 a1] at hi
    obtain ⟨ad2, e2, _⟩ := Kd.at_int hi a a0 a1
    subst e2
    refine ⟨ad2, c, hx, fun b b0 b1 => ?_⟩
    obtain ⟨ad3, e3, h3⟩ := Kd.at_int hi b b0 b1
    cases e3
    rwa [rd_rowF _ b0 b1] at h3)
  have hin : ∀ x ∈ l1, 0 ≤ x ∧ x < (n : Int) := fun x hx => by rw [← hn]; exact hord.2.2 x hx
  obtain ⟨K, hK⟩ : ∃ K, pickK a2 C = K := ⟨_, rfl⟩
  rw [hK, mat_len]
  have HK := Aside0.mk hK
  have HBX : Aside0 (∀ a b : Int, 0 ≤ K a b ∧ K a b ≤ 99999) := ⟨fun a b => by rw [← hK]; unfold pickK; cases a2; exact hbx a b; exact hbx b a⟩
  have HPRE := Aside0.mk (ndC_pre (K := K) (s := a1) p0 (by omega) hpre)
  have HP0 := Aside0.mk hp0
  have HKR := Aside0.mk hkR
  have HN1 := Aside0.mk (show 1 ≤ n by omega)
  have HN8 := Aside0.mk (show n ≤ 8 by omega)
  have HOL := Aside0.mk hn
  have HL8 := Aside0.mk (show l1.length ≤ 8 by omega)
  have HIN := Aside0.mk hin
  have HS0 := Aside0.mk hs.1
  have HS1 := Aside0.mk (show a1 < (n : Int) by have := hs.2; omega)
  clear h hord hn1 hn8 hs hbx hp0 hpre hkR hn hC hr0_0 hc0_0 hr0_1 hc0_1 hr0_2 hc0_2 hin hK hbd
  go_enter Try.func92, Try.ntmps92
  go_wp2_with (first | ((with_reducible refine gate_dst (N := 3) rfl ?_); refine be (cs := #[.slice (some ad1) l1.length c0_0, .slice (some adC) n c0_1, .slice A0_2 l0_2.length c0_2]) (t := 37) ?_; intro gb3 hg w5 hbox hb; have BK3 := Aside0.mk hbox; have GE3 := gz w hg (uB0 HB); replace HB := Aside0.mk (below_step (uB0 HB) hb); clear hb hbox hg; obtain ⟨hz0, hz1, hz2, hf0, hf1, hf2⟩ := bc3 BK3) | ((with_reducible refine gate_dst (N := 17) rfl ?_); go_loud (refine Kd.R_make (Kd.int .i64) _ 3 rfl (N := 17) rfl 25 _ _ rfl (l1.length : Int) rfl rfl Try.underlying25 (.int .i64 0) 8 info3 rfl (by decide) (by omega) 0 (ok := fun _ => True) (okp := fun _ => True) rfl (fun _ hk => hk) trivial (iz4 _) (by rw [Int.toNat_natCast]; have := HL8.out; omega) (Below.refl _ _) (Nat.le_refl _) ?_); intro v7 w9 ho10 hb hg_ hnew_; clear hg_ hnew_; rw [Int.toNat_natCast, HOL.out] at ho10; have R8 := Aside0.mk (Kd.R_lower ho10 (below_size HB.out)); replace BK3 := bb BK3 hb; replace HB := Aside0.mk (below_step HB.out hb); clear hb ho10 hz0 hz1 hz2 hf0 hf1 hf2))
  obtain ⟨g7, c7, e7, _, _, _, _⟩ := Kd.R_form R8.out (by rw [List.length_replicate]; exact HN1.out)
  rw [List.length_replicate] at e7
  subst e7
  go_loopg [8] n (fun gg s8 wr => ∃ j : Nat, s8 = .int .i64 (j : Int) ∧ j ≤ n ∧ n - j ≤ gg ∧ Aside0 (Kd.R (Kd.int .i64) 3 wr w.heap.size (fun _ => True) (.slice (some ⟨g7, 0, none⟩) n c7) (List.replicate j 99999 ++ List.replicate (n - j) 0)) ∧ Aside0 (wr.heap[gb3]? = some (.cells #[.slice (some ad1) l1.length c0_0, .slice (some adC) n c0_1, .slice A0_2 l0_2.length c0_2] 37 (0, 0))) ∧ Aside0 (Below w.heap.size w wr))
  case atStart => exact ⟨0, rfl, Nat.zero_le _, Nat.le_refl _, R8, BK3, HB⟩
  case round =>
    clear R8 BK3 HB
    obtain ⟨j, rfl, hjl, hgj, R8, BK3, HB⟩ := hrel
    obtain ⟨go, co, eo, gb14, gl14, cl14, HG14⟩ := Kd.R_form R8.out (by rw [up_len _ hjl]; exact HN1.out)
    injection eo with e1 e2 e3
    injection e1 with e1
    injection e1 with e1
    subst e1
    clear e2 e3
    by_cases hj : j < n
    · have hjz := dl (iz3 hj)
      have q1 := eq_true (iz3 hj)
      have q2 := eq_true (iz4 j)
      have hx14 := Kd.R_celln 0 R8.out (j : Int) (iz4 j) (iz3 hj)
      have hp := Kd.R_putg R8.out (j : Int) 99999
      rw [up_put 99999 hj] at hp
      have HP := Aside0.mk hp.1
      obtain ⟨hx0, hfx⟩ := hx14
      simp only [Int.toNat_natCast] at hx0 hfx HP
      have GB := Aside0.mk gb14; have HG := Aside0.mk HG14; have HJ := Aside0.mk hj; have HGJ := Aside0.mk hgj
      clear hp gb14 gl14 HG14 hj hjl hgj R8
      go_wp2
      go_roundg (n - j - 1)
      case measure => exact Nat.lt_of_lt_of_le (iz9 HJ.out) HGJ.out
      case rel => exact ⟨j + 1, congrArg (Value.int .i64) (iz7 HJ.out HN8.out), HJ.out, Nat.le_refl _, HP, ⟨box_far BK3.out HG.out (by decide) _⟩, ⟨below_set HB.out GB.out⟩⟩
    · have hjz := DL (iz5 hj)
      have hq1 := eq_false (iz5 hj); have hq2 := eq_false hj
      have ej := iz6 hj hjl
      rw [ej, Nat.sub_self, List.replicate_zero, List.append_nil, ← rowF_const] at R8
      clear hj hjl hgj ej gb14 gl14 HG14
      have RK : Aside0 (CW w gb3 #[.slice (some ad1) l1.length c0_0, .slice (some adC) n c0_1, .slice A0_2 l0_2.length c0_2] g7 c7 n (fun _ => 99999) wr) := ⟨⟨R8.out, BK3.out, HB.out⟩⟩
      clear R8 BK3 HB
      obtain ⟨hx0, hfx, hput⟩ := RK.out.put HN1.out HS0.out HS1.out 0
      have HP := Aside0.mk hput
      have q1 := eq_true HS0.out; have q2 := eq_true HS1.out
      clear hput
      go_upto_region 7 with (fail)
      clear hx0 hfx hjz hq1 hq2 q1 q2 RK
      generalize wr.setCell ⟨g7, a1.toNat, none⟩ (.int .i64 0) = w10 at HP ⊢
      have RK : Aside0 (CW w gb3 #[.slice (some ad1) l1.length c0_0, .slice (some adC) n c0_1, .slice A0_2 l0_2.length c0_2] g7 c7 n (at0 a1) w10) := HP
      clear HP
      obtain ⟨hz0, hz1, hz2, hf0, hf1, hf2⟩ := bc3 (Aside0.mk RK.out.K3)
      go_wp2_with (go_at_call 123; (with_reducible refine (spec_l8Rank.calls kR _ _ l1 a1 _ _ ?side1 ?side2 HKR.out).mono ?_); (case side1 => exact Kd.C_below HR1.out RK.out.B); (case side2 => exact HC1.out); rintro e w11 ⟨rfl, hd⟩; replace RK := Aside0.mk (RK.out.below hd.below); clear hd hz0 hz1 hz2 hf0 hf1 hf2)
      go_loopg [9] l1.length (fun gg s9 wr => ∃ i : Nat, s9 = .int .i64 (i : Int) ∧ i ≤ l1.length ∧ l1.length - i ≤ gg ∧ Aside0 (CW w gb3 #[.slice (some ad1) l1.length c0_0, .slice (some adC) n c0_1, .slice A0_2 l0_2.length c0_2] g7 c7 n (ndC K l1 (at0 a1) i) wr))
      case atStart => exact ⟨p0, rfl, Nat.le_of_lt HP0.out, Nat.sub_le _ _, ⟨by rw [HPRE.out]; exact RK.out⟩⟩
      case round =>
        clear RK
        obtain ⟨i, rfl, hil, hgi, RK⟩ := hrel
        obtain ⟨hz0, hz1, hz2, hf0, hf1, hf2⟩ := bc3 (Aside0.mk RK.out.K3)
        by_cases hi : i < l1.length
        · have hiz := dl (iz3 hi)
          have hx9 := HRD.out (i : Int) (iz4 i) (iz3 hi)
          have hB_ := Aside0.mk RK.out.B
          replace hx9 := uc hB_ hx9
          simp only [Int.toNat_natCast] at hx9
          have p1 := eq_true (iz4 i)
          have p2 := eq_true (iz3 hi)
          have hm := HIN.out (rd l1 (i : Int)) (by rw [rd_at0 l1 i hi]; exact List.getElem_mem hi)
          have HM0 := Aside0.mk hm.1; have HM1 := Aside0.mk hm.2
          have HI := Aside0.mk hi
          have HGI := Aside0.mk hgi
          obtain ⟨m, hm_⟩ : ∃ m, rd l1 (i : Int) = m := ⟨_, rfl⟩
          rw [hm_] at hx9 HM0 HM1
          have HMD := Aside0.mk hm_
          clear hm hm_ hi hil hgi hB_
          go_wp2
          clear hz0 hz1 hz2 hf0 hf1 hf2 hx9 hiz p2
          go_loopg [11] (l1.length - (i + 1)) (fun gg s11 wr => ∃ y q : Nat, s11 = .int .i64 (q : Int) ∧ q = i + 1 + y ∧ y ≤ l1.length - (i + 1) ∧ l1.length - (i + 1) - y ≤ gg ∧ Aside0 (CW w gb3 #[.slice (some ad1) l1.length c0_0, .slice (some adC) n c0_1, .slice A0_2 l0_2.length c0_2] g7 c7 n (abC K l1 (ndC K l1 (at0 a1) i) i y) wr))
          case atStart => exact ⟨0, i + 1, congrArg (Value.int .i64) (iz7 HI.out HL8.out), rfl, Nat.zero_le _, Nat.le_refl _, RK⟩
          case round =>
            clear RK
            obtain ⟨y, q, rfl, hqy, hyl, hgy, RK⟩ := hrel
            obtain ⟨hz0, hz1, hz2, hf0, hf1, hf2⟩ := bc3 (Aside0.mk RK.out.K3)
            by_cases hy : q < l1.length
            · have hyz := dl (iz3 hy)
              have hyL : y < l1.length - (i + 1) := by rw [hqy] at hy; exact iz12u hy
              have hx11 := HRD.out (q : Int) (iz4 _) (iz3 hy)
              rw [Int.toNat_natCast] at hx11
              have hB_ := Aside0.mk RK.out.B
              replace hx11 := uc hB_ hx11
              have r1 := eq_true (iz4 q)
              have r2 := eq_true (iz3 hy)
              have hb := HIN.out (rd l1 (q : Int)) (by rw [rd_at0 l1 _ hy]; exact List.getElem_mem hy)
              have hsy := abC_succ K l1 (ndC K l1 (at0 a1) i) i y (hqy ▸ hy)
              rw [← hqy] at hsy
              obtain ⟨b, hb_⟩ : ∃ b, rd l1 (q : Int) = b := ⟨_, rfl⟩
              rw [hb_] at hx11 hb hsy
              rw [HMD.out] at hsy
              have HB0 := Aside0.mk hb.1; have HB1 := Aside0.mk hb.2
              have HY := Aside0.mk hyL; have HQ_ := Aside0.mk hy; have HGY := Aside0.mk hgy; have HSY := Aside0.mk hsy; have HQY := Aside0.mk hqy
              have HBOX : Aside0 (Bx1 (abC K l1 (ndC K l1 (at0 a1) i) i y)) := ⟨abC_box (fun a b => (HBX.out a b).1) (ndC_box (fun a b => (HBX.out a b).1) (at0_box a1) i) i y⟩
              have HBM := Aside0.mk (HBOX.out m)
              obtain ⟨D, hD⟩ : ∃ D, (abC K l1 (ndC K l1 (at0 a1) i) i y) = D := ⟨_, rfl⟩
              rw [hD] at RK HSY HBM
              obtain ⟨adm, cm, hxm, hcm⟩ := HRC.out m HM0.out HM1.out
              have hxmb := hcm b HB0.out HB1.out
              obtain ⟨adb, cb, hxb, hcb⟩ := HRC.out b HB0.out HB1.out
              have hxbm := hcb m HM0.out HM1.out
              replace hxm := uc hB_ hxm; replace hxmb := uc hB_ hxmb; replace hxb := uc hB_ hxb; replace hxbm := uc hB_ hxbm
              have HKM := Aside0.mk (HBX.out m b)
              have hkk : K m b = if a2 = true then C b m else C m b := by rw [← HK.out]; unfold pickK trp; cases a2 <;> rfl
              have z0 := eq_true HB0.out; have z1 := eq_true HB1.out; have z2 := eq_true HM0.out; have z3 := eq_true HM1.out
              have HVB := Aside0.mk (show K m b = (if a2 = true then C b m else C m b) from hkk)
              obtain ⟨kv, hkv⟩ : ∃ kv, K m b = kv := ⟨_, rfl⟩
              rw [hkv] at HKM HVB
              have HKV := Aside0.mk hkv
              obtain ⟨vm, hvm⟩ : ∃ vm, D m = vm := ⟨_, rfl⟩
              have HVM := Aside0.mk hvm
              obtain ⟨vb, hvb⟩ : ∃ vb, D b = vb := ⟨_, rfl⟩
              have HVD := Aside0.mk hvb
              rw [hvm] at HBM
              have hsum := va_sum HBM.out HKM.out
              clear hcm hcb hy hyL hqy hb hb_ hsy hB_ hyl hgy HBOX hD hkv hvm hvb hkk
              cases a2 with
              | false =>
                have ev : C m b = kv := HVB.out.symm
                rw [ev] at hxmb
                clear ev hxb hxbm
                go_upto_region 18 with (fail)
                clear hz0 hz1 hz2 hf0 hf1 hf2 hx11 hxm hxmb
                replace RK := Aside0.mk RK.out.drew
                have hAM := (RK.out.put HN1.out HM0.out HM1.out 0).1
                have hAB := (RK.out.put HN1.out HB0.out HB1.out 0).1
                rw [HVM.out] at hAM
                rw [HVD.out] at hAB
                refine start_ (n := 22) (S := fun w' => w'.cell? ⟨g7, m.toNat, none⟩ = some (.int .i64 vm) ∧ w'.cell? ⟨g7, b.toNat, none⟩ = some (.int .i64 vb)) (ds := []) (zt 22 0) (by kernel_rfl) rfl (by kernel_rfl) ⟨hAM, hAB⟩ (fun hHeld => ?_)
                refine with_tabW up18_tab up18_bits (fun HT_ HW_ => ?_)
                generalize wr.drew = w50 at RK hHeld hAM hAB ⊢
                by_cases c1 : vm < 99999
                rotate_left
                · have c1d := DL c1
                  have HNX := Aside0.mk (HSY.out.trans (cl1_no (fun h => c1 (HVM.out ▸ h.1))))
                  clear c1
                  refine qz HT_ 0 ?_; refine qz HT_ 1 ?_; refine qz HT_ 2 ?_; refine qt HT_ HW_ hHeld 3 ?_; refine qz HT_ 4 ?_; refine qz HT_ 5 ?_; refine qn HT_ 6 ?_; refine qn HT_ 7 ?_; refine qz HT_ 8 ?_; refine qz HT_ 9 ?_; refine qn HT_ 10 ?_; refine qn HT_ 11 ?_; refine qn HT_ 12 ?_; refine qn HT_ 13 ?_; refine qn HT_ 14 ?_; refine qn HT_ 15 ?_; refine qn HT_ 16 ?_; refine qn HT_ 17 ?_; refine qn HT_ 18 ?_; refine qn HT_ 19 ?_; refine qn HT_ 20 ?_; refine qz HT_ 21 ?_; refine done_ (done_of HT_.out (by kernel_rfl)) ?_
                  clear HT_ HW_ hHeld
                  try go_wp2
                  go_roundg (l1.length - (i + 1) - y - 1)
                  case measure => exact Nat.lt_of_lt_of_le (iz9 HY.out) HGY.out
                  case rel => exact ⟨y + 1, q + 1, congrArg (Value.int .i64) (iz7 HQ_.out HL8.out), iz13u HQY.out, HY.out, Nat.le_refl _, ⟨by rw [HNX.out]; exact RK.out⟩⟩
                · have c1d := dl c1
                  by_cases c2 : kv < 99999
                  rotate_left
                  · have c2d := DL c2
                    have HNX := Aside0.mk (HSY.out.trans (cl1_no (fun h => c2 (HKV.out ▸ h.2))))
                    clear c1 c2
                    refine qz HT_ 0 ?_; refine qz HT_ 1 ?_; refine qz HT_ 2 ?_; refine qt HT_ HW_ hHeld 3 ?_; refine qz HT_ 4 ?_; refine qz HT_ 5 ?_; refine qz HT_ 6 ?_; refine qz HT_ 7 ?_; refine qz HT_ 8 ?_; refine qz HT_ 9 ?_; refine qn HT_ 10 ?_; refine qn HT_ 11 ?_; refine qn HT_ 12 ?_; refine qn HT_ 13 ?_; refine qn HT_ 14 ?_; refine qn HT_ 15 ?_; refine qn HT_ 16 ?_; refine qn HT_ 17 ?_; refine qn HT_ 18 ?_; refine qn HT_ 19 ?_; refine qn HT_ 20 ?_; refine qz HT_ 21 ?_; refine done_ (done_of HT_.out (by kernel_rfl)) ?_
                    clear HT_ HW_ hHeld
                    try go_wp2
                    go_roundg (l1.length - (i + 1) - y - 1)
                    case measure => exact Nat.lt_of_lt_of_le (iz9 HY.out) HGY.out
                    case rel => exact ⟨y + 1, q + 1, congrArg (Value.int .i64) (iz7 HQ_.out HL8.out), iz13u HQY.out, HY.out, Nat.le_refl _, ⟨by rw [HNX.out]; exact RK.out⟩⟩
                  · have c2d := dl c2
                    by_cases c3 : vm + kv < vb
                    rotate_left
                    · have c3d := DL c3
                      have HNX := Aside0.mk (HSY.out.trans (cl1_not (by rw [HVM.out, HKV.out, HVD.out]; exact c3)))
                      clear c1 c2 c3
                      refine qz HT_ 0 ?_; refine qz HT_ 1 ?_; refine qz HT_ 2 ?_; refine qt HT_ HW_ hHeld 3 ?_; refine qz HT_ 4 ?_; refine qz HT_ 5 ?_; refine qz HT_ 6 ?_; refine qz HT_ 7 ?_; refine qz HT_ 8 ?_; refine qz HT_ 9 ?_; refine qz HT_ 10 ?_; refine qz HT_ 11 ?_; refine qz HT_ 12 ?_; refine qt HT_ HW_ hHeld 13 ?_; refine qz HT_ 14 ?_; refine qz HT_ 15 ?_; refine qz HT_ 16 ?_; refine qz HT_ 17 ?_; refine qz HT_ 18 ?_; refine qt HT_ HW_ hHeld 19 ?_; refine qz HT_ 20 ?_; refine qz HT_ 21 ?_; refine done_ (done_of HT_.out (by kernel_rfl)) ?_
                      clear HT_ HW_ hHeld
                      try go_wp2
                      go_roundg (l1.length - (i + 1) - y - 1)
                      case measure => exact Nat.lt_of_lt_of_le (iz9 HY.out) HGY.out
                      case rel => exact ⟨y + 1, q + 1, congrArg (Value.int .i64) (iz7 HQ_.out HL8.out), iz13u HQY.out, HY.out, Nat.le_refl _, ⟨by rw [HNX.out]; exact RK.out⟩⟩
                    · have c3d := dl c3
                      have HNX := Aside0.mk (HSY.out.trans (cl1_less (by rw [HVM.out]; exact c1) (by rw [HKV.out]; exact c2) (by rw [HVM.out, HKV.out, HVD.out]; exact c3)))
                      rw [HVM.out, HKV.out] at HNX
                      obtain ⟨_, hfz, hput⟩ := RK.out.put HN1.out HB0.out HB1.out (vm + kv)
                      have HP := Aside0.mk hput
                      clear c1 c2 c3 hput
                      refine qz HT_ 0 ?_; refine qz HT_ 1 ?_; refine qz HT_ 2 ?_; refine qt HT_ HW_ hHeld 3 ?_; refine qz HT_ 4 ?_; refine qz HT_ 5 ?_; refine qz HT_ 6 ?_; refine qz HT_ 7 ?_; refine qz HT_ 8 ?_; refine qz HT_ 9 ?_; refine qz HT_ 10 ?_; refine qz HT_ 11 ?_; refine qz HT_ 12 ?_; refine qt HT_ HW_ hHeld 13 ?_; refine qz HT_ 14 ?_; refine qz HT_ 15 ?_; refine qz HT_ 16 ?_; refine qz HT_ 17 ?_; refine qz HT_ 18 ?_; refine qt HT_ HW_ hHeld 19 ?_; refine qz HT_ 20 ?_; refine qz HT_ 21 ?_; refine done_ (done_of HT_.out (by kernel_rfl)) ?_
                      clear HT_ HW_ hHeld
                      try go_wp2
                      go_roundg (l1.length - (i + 1) - y - 1)
                      case measure => exact Nat.lt_of_lt_of_le (iz9 HY.out) HGY.out
                      case rel => exact ⟨y + 1, q + 1, congrArg (Value.int .i64) (iz7 HQ_.out HL8.out), iz13u HQY.out, HY.out, Nat.le_refl _, ⟨by rw [HNX.out]; exact HP.out⟩⟩
              | true =>
                have ev : C b m = kv := HVB.out.symm
                rw [ev] at hxbm
                clear ev
                go_upto_region 18 with (fail)
                clear hz0 hz1 hz2 hf0 hf1 hf2 hx11 hxm hxmb
                replace RK := Aside0.mk RK.out.drew
                have hAM := (RK.out.put HN1.out HM0.out HM1.out 0).1
                have hAB := (RK.out.put HN1.out HB0.out HB1.out 0).1
                rw [HVM.out] at hAM
                rw [HVD.out] at hAB
                refine start_ (n := 22) (S := fun w' => w'.cell? ⟨g7, m.toNat, none⟩ = some (.int .i64 vm) ∧ w'.cell? ⟨g7, b.toNat, none⟩ = some (.int .i64 vb)) (ds := []) (zt 22 0) (by kernel_rfl) rfl (by kernel_rfl) ⟨hAM, hAB⟩ (fun hHeld => ?_)
                refine with_tabW up18_tab up18_bits (fun HT_ HW_ => ?_)
                generalize wr.drew = w50 at RK hHeld hAM hAB ⊢
                by_cases c1 : vm < 99999
                rotate_left
                · have c1d := DL c1
                  have HNX := Aside0.mk (HSY.out.trans (cl1_no (fun h => c1 (HVM.out ▸ h.1))))
                  clear c1
                  refine qz HT_ 0 ?_; refine qz HT_ 1 ?_; refine qz HT_ 2 ?_; refine qt HT_ HW_ hHeld 3 ?_; refine qz HT_ 4 ?_; refine qz HT_ 5 ?_; refine qn HT_ 6 ?_; refine qn HT_ 7 ?_; refine qz HT_ 8 ?_; refine qz HT_ 9 ?_; refine qn HT_ 10 ?_; refine qn HT_ 11 ?_; refine qn HT_ 12 ?_; refine qn HT_ 13 ?_; refine qn HT_ 14 ?_; refine qn HT_ 15 ?_; refine qn HT_ 16 ?_; refine qn HT_ 17 ?_; refine qn HT_ 18 ?_; refine qn HT_ 19 ?_; refine qn HT_ 20 ?_; refine qz HT_ 21 ?_; refine done_ (done_of HT_.out (by kernel_rfl)) ?_
                  clear HT_ HW_ hHeld
                  try go_wp2
                  go_roundg (l1.length - (i + 1) - y - 1)
                  case measure => exact Nat.lt_of_lt_of_le (iz9 HY.out) HGY.out
                  case rel => exact ⟨y + 1, q + 1, congrArg (Value.int .i64) (iz7 HQ_.out HL8.out), iz13u HQY.out, HY.out, Nat.le_refl _, ⟨by rw [HNX.out]; exact RK.out⟩⟩
                · have c1d := dl c1
                  by_cases c2 : kv < 99999
                  rotate_left
                  · have c2d := DL c2
                    have HNX := Aside0.mk (HSY.out.trans (cl1_no (fun h => c2 (HKV.out ▸ h.2))))
                    clear c1 c2
                    refine qz HT_ 0 ?_; refine qz HT_ 1 ?_; refine qz HT_ 2 ?_; refine qt HT_ HW_ hHeld 3 ?_; refine qz HT_ 4 ?_; refine qz HT_ 5 ?_; refine qz HT_ 6 ?_; refine qz HT_ 7 ?_; refine qz HT_ 8 ?_; refine qz HT_ 9 ?_; refine qn HT_ 10 ?_; refine qn HT_ 11 ?_; refine qn HT_ 12 ?_; refine qn HT_ 13 ?_; refine qn HT_ 14 ?_; refine qn HT_ 15 ?_; refine qn HT_ 16 ?_; refine qn HT_ 17 ?_; refine qn HT_ 18 ?_; refine qn HT_ 19 ?_; refine qn HT_ 20 ?_; refine qz HT_ 21 ?_; refine done_ (done_of HT_.out (by kernel_rfl)) ?_
                    clear HT_ HW_ hHeld
                    try go_wp2
                    go_roundg (l1.length - (i + 1) - y - 1)
                    case measure => exact Nat.lt_of_lt_of_le (iz9 HY.out) HGY.out
                    case rel => exact ⟨y + 1, q + 1, congrArg (Value.int .i64) (iz7 HQ_.out HL8.out), iz13u HQY.out, HY.out, Nat.le_refl _, ⟨by rw [HNX.out]; exact RK.out⟩⟩
                  · have c2d := dl c2
                    by_cases c3 : vm + kv < vb
                    rotate_left
                    · have c3d := DL c3
                      have HNX := Aside0.mk (HSY.out.trans (cl1_not (by rw [HVM.out, HKV.out, HVD.out]; exact c3)))
                      clear c1 c2 c3
                      refine qz HT_ 0 ?_; refine qz HT_ 1 ?_; refine qz HT_ 2 ?_; refine qt HT_ HW_ hHeld 3 ?_; refine qz HT_ 4 ?_; refine qz HT_ 5 ?_; refine qz HT_ 6 ?_; refine qz HT_ 7 ?_; refine qz HT_ 8 ?_; refine qz HT_ 9 ?_; refine qz HT_ 10 ?_; refine qz HT_ 11 ?_; refine qz HT_ 12 ?_; refine qt HT_ HW_ hHeld 13 ?_; refine qz HT_ 14 ?_; refine qz HT_ 15 ?_; refine qz HT_ 16 ?_; refine qz HT_ 17 ?_; refine qz HT_ 18 ?_; refine qt HT_ HW_ hHeld 19 ?_; refine qz HT_ 20 ?_; refine qz HT_ 21 ?_; refine done_ (done_of HT_.out (by kernel_rfl)) ?_
                      clear HT_ HW_ hHeld
                      try go_wp2
                      go_roundg (l1.length - (i + 1) - y - 1)
                      case measure => exact Nat.lt_of_lt_of_le (iz9 HY.out) HGY.out
                      case rel => exact ⟨y + 1, q + 1, congrArg (Value.int .i64) (iz7 HQ_.out HL8.out), iz13u HQY.out, HY.out, Nat.le_refl _, ⟨by rw [HNX.out]; exact RK.out⟩⟩
                    · have c3d := dl c3
                      have HNX := Aside0.mk (HSY.out.trans (cl1_less (by rw [HVM.out]; exact c1) (by rw [HKV.out]; exact c2) (by rw [HVM.out, HKV.out, HVD.out]; exact c3)))
                      rw [HVM.out, HKV.out] at HNX
                      obtain ⟨_, hfz, hput⟩ := RK.out.put HN1.out HB0.out HB1.out (vm + kv)
                      have HP := Aside0.mk hput
                      clear c1 c2 c3 hput
                      refine qz HT_ 0 ?_; refine qz HT_ 1 ?_; refine qz HT_ 2 ?_; refine qt HT_ HW_ hHeld 3 ?_; refine qz HT_ 4 ?_; refine qz HT_ 5 ?_; refine qz HT_ 6 ?_; refine qz HT_ 7 ?_; refine qz HT_ 8 ?_; refine qz HT_ 9 ?_; refine qz HT_ 10 ?_; refine qz HT_ 11 ?_; refine qz HT_ 12 ?_; refine qt HT_ HW_ hHeld 13 ?_; refine qz HT_ 14 ?_; refine qz HT_ 15 ?_; refine qz HT_ 16 ?_; refine qz HT_ 17 ?_; refine qz HT_ 18 ?_; refine qt HT_ HW_ hHeld 19 ?_; refine qz HT_ 20 ?_; refine qz HT_ 21 ?_; refine done_ (done_of HT_.out (by kernel_rfl)) ?_
                      clear HT_ HW_ hHeld
                      try go_wp2
                      go_roundg (l1.length - (i + 1) - y - 1)
                      case measure => exact Nat.lt_of_lt_of_le (iz9 HY.out) HGY.out
                      case rel => exact ⟨y + 1, q + 1, congrArg (Value.int .i64) (iz7 HQ_.out HL8.out), iz13u HQY.out, HY.out, Nat.le_refl _, ⟨by rw [HNX.out]; exact HP.out⟩⟩
            · have hyz := DL (iz5 hy)
              have hq1 := eq_false (iz5 hy); have hq2 := eq_false hy
              have ey := iz14u hqy hy hyl
              rw [ey] at RK
              have hab := abC_all K l1 (ndC K l1 (at0 a1) i) i
              rw [HMD.out] at hab
              have HNX := Aside0.mk (show ndC K l1 (at0 a1) (i + 1) = abC K l1 (ndC K l1 (at0 a1) i) i (l1.length - (i + 1)) from by rw [hab]; show clN K (rd l1 (i : Int)) _ _ = _; rw [HMD.out])
              clear hab hy hyl hgy ey hqy
              go_wp2
              go_roundg (l1.length - i - 1)
              case measure => exact Nat.lt_of_lt_of_le (iz9 HI.out) HGI.out
              case rel => exact ⟨i + 1, congrArg (Value.int .i64) (iz7 HI.out HL8.out), HI.out, Nat.le_refl _, ⟨by rw [HNX.out]; exact RK.out⟩⟩
        · have hiz := DL (iz5 hi)
          have hq1 := eq_false (iz5 hi); have hq2 := eq_false hi
          have ei := iz6 hi hil
          rw [ei] at RK
          have hnd := ndC_all K l1 (at0 a1)
          rw [hnd] at RK
          clear hnd hi hil hgi ei
          go_wp2
          go_ret
          exact ⟨_, rfl, by rw [HOL.out]; exact RK.out.R7, RK.out.B⟩
end Go.Proofs.Ytdlaaccnaokdnaa.P
