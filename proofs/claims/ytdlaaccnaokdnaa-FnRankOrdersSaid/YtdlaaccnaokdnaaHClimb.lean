/- Contract: (Rank).climb, by hand: what it costs to go up from a node, against whatever function tells a step's cost. -/
import Derived.Test.YtdlaaccnaokdnaaHRank
import Derived.Test.YtdlaaccnaokdnaaHRepeat
import Derived.Test.YtdlaaccnaokdnaaMRankC
set_option linter.unusedVariables false
set_option linter.unusedSimpArgs false
namespace Go.Proofs.Ytdlaaccnaokdnaa.P
open Go.RowKit Go.Proofs.Ytdlaaccnaokdnaa.M Go.Proofs.YtdlaaccnaokdnaaV.PrintWords Go.Proofs.YtdlaaccnaokdnaaV.PrintLast Go.Proofs.YtdlaaccnaokdnaaV.PrintMore
def cb11_T : Bool × List (List Nat × List Nat) := (true, [([], []), ([], []), ([], []), ([], []), ([2, 3], [2, 3]), ([4], [4]), ([], []), ([], []), ([6, 7], [6, 7]), ([8], [8]), ([], []), ([9, 10], [9, 10]), ([5, 11], [5, 11]), ([0, 1, 0, 1, 2, 3, 4, 5, 6, 7, 8, 9, 10, 11, 12], [0, 1]), ([13, 12, 0, 1, 2, 3, 4, 5, 6, 7, 8, 9, 10, 11, 12], [12, 13])])
def cb11_B : List Nat := [0, 0, 0, 0, 12, 28, 0, 0, 192, 448, 0, 1984, 4092, 8191, 16383]
theorem cb11_tab : rtab .any (opsOf Try.f57 11) = cb11_T := by kernel_rfl
theorem cb11_bits : waitsOk cb11_T.2 cb11_B = true := by kernel_rfl
/-- the row of costs, and the box of the hierarchy -/
structure CW (w : World) (gb3 : Nat) (cs : Array Value) (g7 c7 n : Nat) (d : Int → Int) (wr : World) : Prop where
  R7 : Kd.R (Kd.int .i64) 3 wr w.heap.size (fun _ => True) (.slice (some ⟨g7, 0, none⟩) n c7) (rowF n d)
  K3 : wr.heap[gb3]? = some (.cells cs 37 (0, 0))
  B : Below w.heap.size w wr
theorem CW.drew {w wr : World} {gb3 : Nat} {cs : Array Value} {g7 c7 n : Nat} {d : Int → Int} (h : CW w gb3 cs g7 c7 n d wr) : CW w gb3 cs g7 c7 n d wr.drew := ⟨Kd.R_drew h.R7, blk_drew h.K3, below_drew1 h.B⟩
theorem CW.put {w wr : World} {gb3 : Nat} {cs : Array Value} {g7 c7 n : Nat} {d : Int → Int} (h : CW w gb3 cs g7 c7 n d wr) (hn : 1 ≤ n) {b : Int} (b0 : 0 ≤ b) (b1 : b < n) (x : Int) : wr.cell? ⟨g7, b.toNat, none⟩ = some (.int .i64 (d b)) ∧ wr.frozen? ⟨g7, b.toNat, none⟩ = false ∧ CW w gb3 cs g7 c7 n (upd1 d b x) (wr.setCell ⟨g7, b.toNat, none⟩ (.int .i64 x)) := by
  obtain ⟨g, c, e, gb, gl, cl, HG⟩ := Kd.R_form h.R7 (by rw [rowF_len]; exact hn)
  rw [rowF_len] at e
  injection e with e1 e2 e3
  injection e1 with e1
  injection e1 with e1
  subst e1
  have hx := Kd.R_celln 0 h.R7 b b0 b1
  have hp := Kd.R_putg h.R7 b x
  rw [rowF_put _ b0] at hp
  have hv : rd (rowF n d) b = d b := rd_rowF d b0 b1
  exact ⟨hx.1.trans (by show some (Value.int .i64 (rd (rowF n d) b)) = _; rw [hv]), hx.2, hp.1, box_far h.K3 HG (by decide) _, below_set h.B gb⟩
set_option maxHeartbeats 8000000 in
set_option maxRecDepth 100000 in
theorem climb_58 (bp : Value) (K : Int → Int → Int) (hK : ∀ a b, 0 ≤ K a b ∧ K a b ≤ 99999) (n : Nat) (hn1 : 1 ≤ n) (hn8 : n ≤ 8) (A0 : Option Addr) (c0 : Nat) (l1 : List Int) (v1 v2 : Value) (A1 A2 : Option Addr) (m1 d1 m2 d2 : Nat) (ev1 : v1 = .slice A1 m1 d1) (ev2 : v2 = .slice A2 m2 d2) (s : Int) (hol : l1.length = n) (hin : ∀ x ∈ l1, 0 ≤ x ∧ x < (n : Int)) (hs : 0 ≤ s ∧ s < (n : Int)) (w : World) (hr0 : Kd.C (Kd.int .i64) w A0 l1.length l1) (hc0 : l1.length ≤ c0)
    (hcost : ∀ W, Below w.heap.size w W → ∀ a b : Int, 0 ≤ a → a < n → 0 ≤ b → b < n → Calls Try.prog 58 #[.int .i64 a, .int .i64 b, bp] W fun e w' => e = .returned (.int .i64 (K a b)) ∧ w' = W) :
    Calls Try.prog 57 #[.agg #[.slice A0 l1.length c0, v1, v2], .int .i64 s, .func (.func 58) #[] #[bp]] w fun e w' => ∃ v0_ : Value, e = .returned v0_ ∧ Kd.R (Kd.int .i64) 3 w' w.heap.size (fun _ => True) v0_ (rowF n (clAll K l1 (at0 s))) ∧ Below w.heap.size w w' := by
  have hu37 := Try.underlying37
  have eg := enters_of (P := Try.prog) Try.func58 (by kernel_rfl) rfl
  have HR1 := Aside0.mk hr0
  have HC1 := Aside0.mk hc0
  have HB := Aside0.mk (Below.refl w.heap.size w)
  have HN1 := Aside0.mk hn1
  have HN8 := Aside0.mk hn8
  have HOL := Aside0.mk hol
  have HIN := Aside0.mk hin
  have HS0 := Aside0.mk hs.1
  have HS1 := Aside0.mk hs.2
  have HK := Aside0.mk hK
  have HCO := Aside0.mk hcost
  have HL8 := Aside0.mk (show l1.length ≤ 8 by omega)
  subst ev1; subst ev2
  obtain ⟨y13, hy13⟩ : ∃ y : List Int, y = [99999] := ⟨_, rfl⟩
  have HRP := Aside0.mk (show slices_Repeat_int.f y13 (l1.length : Int) = some (rowF n (fun _ => 99999)) by
    rw [hy13]
    unfold slices_Repeat_int.f
    rw [if_pos ⟨rfl, by omega, by omega⟩, rowF_const, hol, Int.toNat_natCast]
    rfl)
  obtain ⟨ad1, ea1, _⟩ := Kd.at_int hr0 0 (by omega) (by omega)
  subst ea1
  have HRD := Aside0.mk (show ∀ i : Int, 0 ≤ i → i < l1.length → w.cell? (ad1.add i.toNat) = some (.int .i64 (rd l1 i)) from fun i h0 h1 => by
    obtain ⟨a, e, h⟩ := Kd.at_int hr0 i h0 h1
    cases e
    exact h)
  have NY := Aside0.mk hy13
  clear hr0 hc0 hn1 hn8 hol hin hs hK hcost hy13
  go_enter Try.func57, Try.ntmps57
  go_upto_region 3 with (first | ((with_reducible refine gate_dst (N := 3) rfl ?_); refine be (cs := #[.slice (some ad1) l1.length c0, .slice A1 m1 d1, .slice A2 m2 d2]) (t := 37) ?_; intro gb3 hg w5 hbox hb; have BK3 := Aside0.mk hbox; have GE3 := gz w hg (uB0 HB); replace HB := Aside0.mk (below_step (uB0 HB) hb); clear hb hbox hg) | ((with_reducible refine gate_dst (N := 13) rfl ?_); refine Kd.R_lit (Kd.int .i64) _ 3 ?hg (N := 13) ?hd (xs := ([99999] : List Int)) (inner := [.int .i64 99999]) (ok := fun _ => True) (okp := fun _ => True) ?hr ?hp (fun _ hk => hk) trivial (Below.refl _ _) (Nat.le_refl _) (by simp) ?_; (case hd => rfl); (case hg => rfl); (case hr => first | (go_simp; done) | (go_simp; rfl)); (case hp => exact (Reps.one (show Kd.M (Kd.int .i64) _ _ _ 99999 [.int .i64 99999] from rfl) (Reps.none _ _))); intro v13 w8 ho hb hg_ hnew_; clear hg_ hnew_; rw [← NY.out] at ho; have R13 := Aside0.mk ho; replace BK3 := bb BK3 hb; replace HB := Aside0.mk (below_step HB.out hb); clear hb ho; obtain ⟨A13, c13, e13⟩ := Kd.R_slice R13.out; subst e13; obtain ⟨hz0, hz1, hz2, hf0, hf1, hf2⟩ := bc3 BK3) | (go_at_call 97; go_loud (with_reducible refine (slices_Repeat_int.calls _ _ y13 (l1.length : Int) _ _ ?side1 ?side2 HRP.out).mono ?_); (case side1 => exact (Kd.R_reads' R13.out).2.2); (case side2 => exact (Kd.R_reads' R13.out).2.1); rintro e w9 ⟨v7, rfl, ho, hb⟩; have R7 := Aside0.mk (Kd.R_lower ho (below_size HB.out)); replace BK3 := bb BK3 hb; replace HB := Aside0.mk (below_step HB.out hb); clear ho hb R13 hz0 hz1 hz2 hf0 hf1 hf2; obtain ⟨g7, c7, e7, gb7, gl7, cl7, HG7⟩ := Kd.R_form R7.out (by rw [rowF_len]; exact HN1.out); rw [rowF_len] at e7; subst e7; have HG7_ := Aside0.mk HG7; have GE7 := Aside0.mk gb7; clear gb7 gl7 HG7; have hx14 := Kd.R_celln 0 R7.out s HS0.out HS1.out; have hp := Kd.R_putg R7.out s 0; rw [rowF_put _ HS0.out] at hp; have HP := Aside0.mk hp.1; have HPG := Aside0.mk hp.2; clear hp; obtain ⟨hx0, hfx⟩ := hx14; have q1 := eq_true HS0.out; have q2 := eq_true HS1.out; obtain ⟨hz0, hz1, hz2, hf0, hf1, hf2⟩ := bc3 BK3))
  have CW0 : Aside0 (CW w gb3 #[.slice (some ad1) l1.length c0, .slice A1 m1 d1, .slice A2 m2 d2] g7 c7 n (at0 s) (w9.setCell ⟨g7, s.toNat, none⟩ (.int .i64 0))) := ⟨⟨HP.out, box_far BK3.out HG7_.out (by decide) _, below_set HB.out GE7.out⟩⟩
  clear HP HPG HG7_ GE7 R7 BK3 HB hx0 hfx q1 q2 hz0 hz1 hz2 hf0 hf1 hf2
  generalize w9.setCell ⟨g7, s.toNat, none⟩ (.int .i64 0) = w10 at CW0 ⊢
  obtain ⟨hz0, hz1, hz2, hf0, hf1, hf2⟩ := bc3 (Aside0.mk CW0.out.K3)
  go_wp2
  clear hz0 hz1 hz2 hf0 hf1 hf2
  go_loopg [24] l1.length (fun gg s24 wr => ∃ i : Nat, s24 = .int .i64 (i : Int) ∧ i ≤ l1.length ∧ l1.length - i ≤ gg ∧ Aside0 (CW w gb3 #[.slice (some ad1) l1.length c0, .slice A1 m1 d1, .slice A2 m2 d2] g7 c7 n (ndC K l1 (at0 s) i) wr))
  case atStart => exact ⟨0, rfl, Nat.zero_le _, Nat.le_refl _, CW0⟩
  case round =>
    clear CW0
    obtain ⟨i, rfl, hil, hgi, RK⟩ := hrel
    by_cases hi : i < l1.length
    · have hiz := dl (iz3 hi)
      have hx9 := HRD.out (i : Int) (iz4 i) (iz3 hi)
      have hB_ := Aside0.mk RK.out.B
      replace hx9 := uc hB_ hx9
      simp only [Int.toNat_natCast] at hx9
      have p1 := eq_true (iz4 i)
      have p2 := eq_true (iz3 hi)
      have hm := HIN.out (rd l1 (i : Int)) (by rw [rd_at0 l1 i hi]; exact List.getElem_mem hi)
      have HM0 := Aside0.mk hm.1; have HM1 := Aside0.mk hm.2
      have HI := Aside0.mk hi
      have HGI := Aside0.mk hgi
      obtain ⟨m, hm_⟩ : ∃ m, rd l1 (i : Int) = m := ⟨_, rfl⟩
      rw [hm_] at hx9 HM0 HM1
      have HMD := Aside0.mk hm_
      have hw1 := iz2 hi HL8.out
      have p3 := eq_true (iz0 i)
      have p4 := eq_true (iz1 hi)
      obtain ⟨L, hL⟩ : ∃ L, l1.length - (i + 1) = L := ⟨_, rfl⟩
      have HL := Aside0.mk hL
      have HLL := Aside0.mk (show L ≤ 8 from hL ▸ Nat.le_trans iz11 HL8.out)
      obtain ⟨A9, hA9⟩ : ∃ A9, (if c0 = i + 1 then some ad1 else some ⟨ad1.block, ad1.off + (i + 1), none⟩) = A9 := ⟨_, rfl⟩
      have HA9 := Aside0.mk hA9
      obtain ⟨hz0, hz1, hz2, hf0, hf1, hf2⟩ := bc3 (Aside0.mk RK.out.K3)
      clear hm hm_ hi hil hgi hB_
      go_wp2
      clear hz0 hz1 hz2 hf0 hf1 hf2 hw1 hA9 p3 p4 hL hx9
      go_loopg [35] L (fun gg s35 wr => ∃ x : Nat, s35 = .int .i64 (x : Int) ∧ x ≤ L ∧ L - x ≤ gg ∧ Aside0 (CW w gb3 #[.slice (some ad1) l1.length c0, .slice A1 m1 d1, .slice A2 m2 d2] g7 c7 n (abC K l1 (ndC K l1 (at0 s) i) i x) wr))
      case atStart => exact ⟨0, rfl, Nat.zero_le _, Nat.le_refl _, RK⟩
      case round =>
        clear RK
        obtain ⟨x, rfl, hxl, hgx, RK⟩ := hrel
        by_cases hx : x < L
        · have hxz := dl (iz3 hx)
          have hxL : x < l1.length - (i + 1) := by rw [HL.out]; exact hx
          have hix := iz10 hxL
          obtain ⟨a9, eA9, hadd⟩ := drop_at HA9.out hxL HC1.out
          subst eA9
          have hx10 := HRD.out ((i + 1 + x : Nat) : Int) (iz4 _) (iz3 hix)
          rw [Int.toNat_natCast, hadd] at hx10
          have hB_ := Aside0.mk RK.out.B
          replace hx10 := uc hB_ hx10
          have q1 := eq_true (iz4 x)
          have q2 := eq_true (iz3 hx)
          have ha := HIN.out (rd l1 ((i + 1 + x : Nat) : Int)) (by rw [rd_at0 l1 _ hix]; exact List.getElem_mem hix)
          have hsx := abC_succ K l1 (ndC K l1 (at0 s) i) i x hix
          obtain ⟨b, ha_⟩ : ∃ b, rd l1 ((i + 1 + x : Nat) : Int) = b := ⟨_, rfl⟩
          rw [ha_] at hx10 ha hsx
          rw [HMD.out] at hsx
          have HB0 := Aside0.mk ha.1; have HB1 := Aside0.mk ha.2
          have HX := Aside0.mk hx; have HGX := Aside0.mk hgx; have HSX := Aside0.mk hsx
          have HBOX : Aside0 (Bx1 (abC K l1 (ndC K l1 (at0 s) i) i x)) := ⟨abC_box (fun a b => (HK.out a b).1) (ndC_box (fun a b => (HK.out a b).1) (at0_box s) i) i x⟩
          have HBM := Aside0.mk (HBOX.out m)
          obtain ⟨D, hD⟩ : ∃ D, (abC K l1 (ndC K l1 (at0 s) i) i x) = D := ⟨_, rfl⟩
          rw [hD] at RK HSX HBM
          have hcall := HCO.out wr RK.out.B m b HM0.out HM1.out HB0.out HB1.out
          have HKM := Aside0.mk (HK.out m b)
          obtain ⟨kv, hkv⟩ : ∃ kv, K m b = kv := ⟨_, rfl⟩
          rw [hkv] at hcall HKM
          have HKV := Aside0.mk hkv
          obtain ⟨vm, hvm⟩ : ∃ vm, D m = vm := ⟨_, rfl⟩
          have HVM := Aside0.mk hvm
          rw [hvm] at HBM
          have hAM := (RK.out.put HN1.out HM0.out HM1.out 0).1
          rw [hvm] at hAM
          have z0 := eq_true HB0.out; have z1 := eq_true HB1.out; have z2 := eq_true HM0.out; have z3 := eq_true HM1.out
          clear hx hxL hix ha ha_ hsx hB_ hxl hgx hadd HBOX hD hkv hvm
          by_cases c1 : vm = 99999
          · obtain ⟨c1b0, c1b1⟩ := dq c1
            have HNX := Aside0.mk (HSX.out.trans (cl1_no (fun h => by have h9 := h.1; rw [HVM.out, c1] at h9; exact absurd h9 (by decide))))
            clear c1
            go_wp2_with (go_at_call 58; refine hcall.mono ?_; rintro e w' ⟨rfl, rfl⟩)
            go_roundg (L - x - 1)
            case measure => exact Nat.lt_of_lt_of_le (iz9 HX.out) HGX.out
            case rel => exact ⟨x + 1, congrArg (Value.int .i64) (iz7 HX.out HLL.out), HX.out, Nat.le_refl _, ⟨by rw [HNX.out]; exact RK.out⟩⟩
          · obtain ⟨c1b0, c1b1⟩ := dQ c1
            by_cases c2 : kv = 99999
            · obtain ⟨c2b0, c2b1⟩ := dq c2
              have HNX := Aside0.mk (HSX.out.trans (cl1_no (fun h => by have h9 := h.2; rw [HKV.out, c2] at h9; exact absurd h9 (by decide))))
              clear c1 c2
              go_wp2_with (go_at_call 58; refine hcall.mono ?_; rintro e w' ⟨rfl, rfl⟩)
              go_roundg (L - x - 1)
              case measure => exact Nat.lt_of_lt_of_le (iz9 HX.out) HGX.out
              case rel => exact ⟨x + 1, congrArg (Value.int .i64) (iz7 HX.out HLL.out), HX.out, Nat.le_refl _, ⟨by rw [HNX.out]; exact RK.out⟩⟩
            · obtain ⟨c2b0, c2b1⟩ := dQ c2
              have HNX := Aside0.mk (HSX.out.trans (cl1_yes ⟨by rw [HVM.out]; exact lt_far HBM.out c1, by rw [HKV.out]; exact lt_far HKM.out c2⟩))
              rw [HVM.out, HKV.out] at HNX
              have hsum := va_sum HBM.out HKM.out
              clear c1 c2
              go_upto_region 11 with (go_at_call 58; refine hcall.mono ?_; rintro e w' ⟨rfl, rfl⟩)
              clear hAM hcall hx10
              replace RK := Aside0.mk RK.out.drew
              obtain ⟨vb, hvb⟩ : ∃ vb, D b = vb := ⟨_, rfl⟩
              obtain ⟨ji, hji⟩ : ∃ ji, mn vb (vm + kv) = ji := ⟨_, rfl⟩
              have hji_ : (if vm + kv < vb then vm + kv else vb) = ji := hji
              have hAM := (RK.out.put HN1.out HM0.out HM1.out 0).1
              obtain ⟨hAB, hfz, hput⟩ := RK.out.put HN1.out HB0.out HB1.out ji
              rw [HVM.out] at hAM
              rw [hvb] at hAB HNX
              rw [hji] at HNX
              have HP := Aside0.mk hput
              clear hput hvb hji
              refine start_ (n := 15) (S := fun w' => w'.cell? ⟨g7, m.toNat, none⟩ = some (.int .i64 vm) ∧ w'.cell? ⟨g7, b.toNat, none⟩ = some (.int .i64 vb)) (ds := [14]) (zt 15 0) (by kernel_rfl) rfl (by kernel_rfl) ⟨hAM, hAB⟩ (fun hHeld => ?_)
              refine with_tabW cb11_tab cb11_bits (fun HT_ HW_ => ?_)
              generalize wr.drew = w50 at RK HP hHeld hAM hAB hfz ⊢
              refine qz HT_ 0 ?_; refine qz HT_ 1 ?_; refine qz HT_ 2 ?_; refine qz HT_ 3 ?_; refine qz HT_ 4 ?_; refine qt HT_ HW_ hHeld 5 ?_; refine qz HT_ 6 ?_; refine qz HT_ 7 ?_; refine qz HT_ 8 ?_; refine qt HT_ HW_ hHeld 9 ?_; refine qz HT_ 10 ?_; refine qz HT_ 11 ?_; refine qz HT_ 12 ?_; refine qz HT_ 13 ?_
              refine last_ (i := 14) (N := none) (zt 15 32767) rfl rfl (one_of HT_.out (by kernel_rfl)) (by decide) (fun K hK => ?_); refine skip_ (w1 := ?_) (by rfl) rfl ?_ ?_; rotate_left
              · go_simp; rfl
              refine hK.out _ _ ?_; clear hK K; refine done_ (done_of HT_.out (by kernel_rfl)) ?_
              clear HT_ HW_ hHeld hAM hAB hfz
              try go_wp2
              go_roundg (L - x - 1)
              case measure => exact Nat.lt_of_lt_of_le (iz9 HX.out) HGX.out
              case rel => exact ⟨x + 1, congrArg (Value.int .i64) (iz7 HX.out HLL.out), HX.out, Nat.le_refl _, ⟨by rw [HNX.out]; exact HP.out⟩⟩
        · have hxz := DL (iz5 hx)
          have hq1 := eq_false (iz5 hx); have hq2 := eq_false hx
          have ex := iz6 hx hxl
          rw [ex] at RK
          have hab := abC_all K l1 (ndC K l1 (at0 s) i) i
          rw [HMD.out, HL.out] at hab
          have HNX := Aside0.mk (show ndC K l1 (at0 s) (i + 1) = abC K l1 (ndC K l1 (at0 s) i) i L from by rw [hab]; show clN K (rd l1 (i : Int)) _ _ = _; rw [HMD.out])
          clear hab hx hxl hgx ex
          go_wp2
          go_roundg (l1.length - i - 1)
          case measure => exact Nat.lt_of_lt_of_le (iz9 HI.out) HGI.out
          case rel => exact ⟨i + 1, congrArg (Value.int .i64) (iz7 HI.out HL8.out), HI.out, Nat.le_refl _, ⟨by rw [HNX.out]; exact RK.out⟩⟩
    · have hiz := DL (iz5 hi)
      have hq1 := eq_false (iz5 hi); have hq2 := eq_false hi
      have ei := iz6 hi hil
      rw [ei] at RK
      have hnd := ndC_all K l1 (at0 s)
      rw [hnd] at RK
      clear hnd hi hil hgi ei
      go_wp2
      go_ret
      exact ⟨_, rfl, RK.out.R7, RK.out.B⟩
set_option maxHeartbeats 8000000 in
set_option maxRecDepth 100000 in
theorem climb_59 (bp : Value) (K : Int → Int → Int) (hK : ∀ a b, 0 ≤ K a b ∧ K a b ≤ 99999) (n : Nat) (hn1 : 1 ≤ n) (hn8 : n ≤ 8) (A0 : Option Addr) (c0 : Nat) (l1 : List Int) (v1 v2 : Value) (A1 A2 : Option Addr) (m1 d1 m2 d2 : Nat) (ev1 : v1 = .slice A1 m1 d1) (ev2 : v2 = .slice A2 m2 d2) (s : Int) (hol : l1.length = n) (hin : ∀ x ∈ l1, 0 ≤ x ∧ x < (n : Int)) (hs : 0 ≤ s ∧ s < (n : Int)) (w : World) (hr0 : Kd.C (Kd.int .i64) w A0 l1.length l1) (hc0 : l1.length ≤ c0)
    (hcost : ∀ W, Below w.heap.size w W → ∀ a b : Int, 0 ≤ a → a < n → 0 ≤ b → b < n → Calls Try.prog 59 #[.int .i64 a, .int .i64 b, bp] W fun e w' => e = .returned (.int .i64 (K a b)) ∧ w' = W) :
    Calls Try.prog 57 #[.agg #[.slice A0 l1.length c0, v1, v2], .int .i64 s, .func (.func 59) #[] #[bp]] w fun e w' => ∃ v0_ : Value, e = .returned v0_ ∧ Kd.R (Kd.int .i64) 3 w' w.heap.size (fun _ => True) v0_ (rowF n (clAll K l1 (at0 s))) ∧ Below w.heap.size w w' := by
  have hu37 := Try.underlying37
  have eg := enters_of (P := Try.prog) Try.func59 (by kernel_rfl) rfl
  have HR1 := Aside0.mk hr0
  have HC1 := Aside0.mk hc0
  have HB := Aside0.mk (Below.refl w.heap.size w)
  have HN1 := Aside0.mk hn1
  have HN8 := Aside0.mk hn8
  have HOL := Aside0.mk hol
  have HIN := Aside0.mk hin
  have HS0 := Aside0.mk hs.1
  have HS1 := Aside0.mk hs.2
  have HK := Aside0.mk hK
  have HCO := Aside0.mk hcost
  have HL8 := Aside0.mk (show l1.length ≤ 8 by omega)
  subst ev1; subst ev2
  obtain ⟨y13, hy13⟩ : ∃ y : List Int, y = [99999] := ⟨_, rfl⟩
  have HRP := Aside0.mk (show slices_Repeat_int.f y13 (l1.length : Int) = some (rowF n (fun _ => 99999)) by
    rw [hy13]
    unfold slices_Repeat_int.f
    rw [if_pos ⟨rfl, by omega, by omega⟩, rowF_const, hol, Int.toNat_natCast]
    rfl)
  obtain ⟨ad1, ea1, _⟩ := Kd.at_int hr0 0 (by omega) (by omega)
  subst ea1
  have HRD := Aside0.mk (show ∀ i : Int, 0 ≤ i → i < l1.length → w.cell? (ad1.add i.toNat) = some (.int .i64 (rd l1 i)) from fun i h0 h1 => by
    obtain ⟨a, e, h⟩ := Kd.at_int hr0 i h0 h1
    cases e
    exact h)
  have NY := Aside0.mk hy13
  clear hr0 hc0 hn1 hn8 hol hin hs hK hcost hy13
  go_enter Try.func57, Try.ntmps57
  go_upto_region 3 with (first | ((with_reducible refine gate_dst (N := 3) rfl ?_); refine be (cs := #[.slice (some ad1) l1.length c0, .slice A1 m1 d1, .slice A2 m2 d2]) (t := 37) ?_; intro gb3 hg w5 hbox hb; have BK3 := Aside0.mk hbox; have GE3 := gz w hg (uB0 HB); replace HB := Aside0.mk (below_step (uB0 HB) hb); clear hb hbox hg) | ((with_reducible refine gate_dst (N := 13) rfl ?_); refine Kd.R_lit (Kd.int .i64) _ 3 ?hg (N := 13) ?hd (xs := ([99999] : List Int)) (inner := [.int .i64 99999]) (ok := fun _ => True) (okp := fun _ => True) ?hr ?hp (fun _ hk => hk) trivial (Below.refl _ _) (Nat.le_refl _) (by simp) ?_; (case hd => rfl); (case hg => rfl); (case hr => first | (go_simp; done) | (go_simp; rfl)); (case hp => exact (Reps.one (show Kd.M (Kd.int .i64) _ _ _ 99999 [.int .i64 99999] from rfl) (Reps.none _ _))); intro v13 w8 ho hb hg_ hnew_; clear hg_ hnew_; rw [← NY.out] at ho; have R13 := Aside0.mk ho; replace BK3 := bb BK3 hb; replace HB := Aside0.mk (below_step HB.out hb); clear hb ho; obtain ⟨A13, c13, e13⟩ := Kd.R_slice R13.out; subst e13; obtain ⟨hz0, hz1, hz2, hf0, hf1, hf2⟩ := bc3 BK3) | (go_at_call 97; go_loud (with_reducible refine (slices_Repeat_int.calls _ _ y13 (l1.length : Int) _ _ ?side1 ?side2 HRP.out).mono ?_); (case side1 => exact (Kd.R_reads' R13.out).2.2); (case side2 => exact (Kd.R_reads' R13.out).2.1); rintro e w9 ⟨v7, rfl, ho, hb⟩; have R7 := Aside0.mk (Kd.R_lower ho (below_size HB.out)); replace BK3 := bb BK3 hb; replace HB := Aside0.mk (below_step HB.out hb); clear ho hb R13 hz0 hz1 hz2 hf0 hf1 hf2; obtain ⟨g7, c7, e7, gb7, gl7, cl7, HG7⟩ := Kd.R_form R7.out (by rw [rowF_len]; exact HN1.out); rw [rowF_len] at e7; subst e7; have HG7_ := Aside0.mk HG7; have GE7 := Aside0.mk gb7; clear gb7 gl7 HG7; have hx14 := Kd.R_celln 0 R7.out s HS0.out HS1.out; have hp := Kd.R_putg R7.out s 0; rw [rowF_put _ HS0.out] at hp; have HP := Aside0.mk hp.1; have HPG := Aside0.mk hp.2; clear hp; obtain ⟨hx0, hfx⟩ := hx14; have q1 := eq_true HS0.out; have q2 := eq_true HS1.out; obtain ⟨hz0, hz1, hz2, hf0, hf1, hf2⟩ := bc3 BK3))
  have CW0 : Aside0 (CW w gb3 #[.slice (some ad1) l1.length c0, .slice A1 m1 d1, .slice A2 m2 d2] g7 c7 n (at0 s) (w9.setCell ⟨g7, s.toNat, none⟩ (.int .i64 0))) := ⟨⟨HP.out, box_far BK3.out HG7_.out (by decide) _, below_set HB.out GE7.out⟩⟩
  clear HP HPG HG7_ GE7 R7 BK3 HB hx0 hfx q1 q2 hz0 hz1 hz2 hf0 hf1 hf2
  generalize w9.setCell ⟨g7, s.toNat, none⟩ (.int .i64 0) = w10 at CW0 ⊢
  obtain ⟨hz0, hz1, hz2, hf0, hf1, hf2⟩ := bc3 (Aside0.mk CW0.out.K3)
  go_wp2
  clear hz0 hz1 hz2 hf0 hf1 hf2
  go_loopg [24] l1.length (fun gg s24 wr => ∃ i : Nat, s24 = .int .i64 (i : Int) ∧ i ≤ l1.length ∧ l1.length - i ≤ gg ∧ Aside0 (CW w gb3 #[.slice (some ad1) l1.length c0, .slice A1 m1 d1, .slice A2 m2 d2] g7 c7 n (ndC K l1 (at0 s) i) wr))
  case atStart => exact ⟨0, rfl, Nat.zero_le _, Nat.le_refl _, CW0⟩
  case round =>
    clear CW0
    obtain ⟨i, rfl, hil, hgi, RK⟩ := hrel
    by_cases hi : i < l1.length
    · have hiz := dl (iz3 hi)
      have hx9 := HRD.out (i : Int) (iz4 i) (iz3 hi)
      have hB_ := Aside0.mk RK.out.B
      replace hx9 := uc hB_ hx9
      simp only [Int.toNat_natCast] at hx9
      have p1 := eq_true (iz4 i)
      have p2 := eq_true (iz3 hi)
      have hm := HIN.out (rd l1 (i : Int)) (by rw [rd_at0 l1 i hi]; exact List.getElem_mem hi)
      have HM0 := Aside0.mk hm.1; have HM1 := Aside0.mk hm.2
      have HI := Aside0.mk hi
      have HGI := Aside0.mk hgi
      obtain ⟨m, hm_⟩ : ∃ m, rd l1 (i : Int) = m := ⟨_, rfl⟩
      rw [hm_] at hx9 HM0 HM1
      have HMD := Aside0.mk hm_
      have hw1 := iz2 hi HL8.out
      have p3 := eq_true (iz0 i)
      have p4 := eq_true (iz1 hi)
      obtain ⟨L, hL⟩ : ∃ L, l1.length - (i + 1) = L := ⟨_, rfl⟩
      have HL := Aside0.mk hL
      have HLL := Aside0.mk (show L ≤ 8 from hL ▸ Nat.le_trans iz11 HL8.out)
      obtain ⟨A9, hA9⟩ : ∃ A9, (if c0 = i + 1 then some ad1 else some ⟨ad1.block, ad1.off + (i + 1), none⟩) = A9 := ⟨_, rfl⟩
      have HA9 := Aside0.mk hA9
      obtain ⟨hz0, hz1, hz2, hf0, hf1, hf2⟩ := bc3 (Aside0.mk RK.out.K3)
      clear hm hm_ hi hil hgi hB_
      go_wp2
      clear hz0 hz1 hz2 hf0 hf1 hf2 hw1 hA9 p3 p4 hL hx9
      go_loopg [35] L (fun gg s35 wr => ∃ x : Nat, s35 = .int .i64 (x : Int) ∧ x ≤ L ∧ L - x ≤ gg ∧ Aside0 (CW w gb3 #[.slice (some ad1) l1.length c0, .slice A1 m1 d1, .slice A2 m2 d2] g7 c7 n (abC K l1 (ndC K l1 (at0 s) i) i x) wr))
      case atStart => exact ⟨0, rfl, Nat.zero_le _, Nat.le_refl _, RK⟩
      case round =>
        clear RK
        obtain ⟨x, rfl, hxl, hgx, RK⟩ := hrel
        by_cases hx : x < L
        · have hxz := dl (iz3 hx)
          have hxL : x < l1.length - (i + 1) := by rw [HL.out]; exact hx
          have hix := iz10 hxL
          obtain ⟨a9, eA9, hadd⟩ := drop_at HA9.out hxL HC1.out
          subst eA9
          have hx10 := HRD.out ((i + 1 + x : Nat) : Int) (iz4 _) (iz3 hix)
          rw [Int.toNat_natCast, hadd] at hx10
          have hB_ := Aside0.mk RK.out.B
          replace hx10 := uc hB_ hx10
          have q1 := eq_true (iz4 x)
          have q2 := eq_true (iz3 hx)
          have ha := HIN.out (rd l1 ((i + 1 + x : Nat) : Int)) (by rw [rd_at0 l1 _ hix]; exact List.getElem_mem hix)
          have hsx := abC_succ K l1 (ndC K l1 (at0 s) i) i x hix
          obtain ⟨b, ha_⟩ : ∃ b, rd l1 ((i + 1 + x : Nat) : Int) = b := ⟨_, rfl⟩
          rw [ha_] at hx10 ha hsx
          rw [HMD.out] at hsx
          have HB0 := Aside0.mk ha.1; have HB1 := Aside0.mk ha.2
          have HX := Aside0.mk hx; have HGX := Aside0.mk hgx; have HSX := Aside0.mk hsx
          have HBOX : Aside0 (Bx1 (abC K l1 (ndC K l1 (at0 s) i) i x)) := ⟨abC_box (fun a b => (HK.out a b).1) (ndC_box (fun a b => (HK.out a b).1) (at0_box s) i) i x⟩
          have HBM := Aside0.mk (HBOX.out m)
          obtain ⟨D, hD⟩ : ∃ D, (abC K l1 (ndC K l1 (at0 s) i) i x) = D := ⟨_, rfl⟩
          rw [hD] at RK HSX HBM
          have hcall := HCO.out wr RK.out.B m b HM0.out HM1.out HB0.out HB1.out
          have HKM := Aside0.mk (HK.out m b)
          obtain ⟨kv, hkv⟩ : ∃ kv, K m b = kv := ⟨_, rfl⟩
          rw [hkv] at hcall HKM
          have HKV := Aside0.mk hkv
          obtain ⟨vm, hvm⟩ : ∃ vm, D m = vm := ⟨_, rfl⟩
          have HVM := Aside0.mk hvm
          rw [hvm] at HBM
          have hAM := (RK.out.put HN1.out HM0.out HM1.out 0).1
          rw [hvm] at hAM
          have z0 := eq_true HB0.out; have z1 := eq_true HB1.out; have z2 := eq_true HM0.out; have z3 := eq_true HM1.out
          clear hx hxL hix ha ha_ hsx hB_ hxl hgx hadd HBOX hD hkv hvm
          by_cases c1 : vm = 99999
          · obtain ⟨c1b0, c1b1⟩ := dq c1
            have HNX := Aside0.mk (HSX.out.trans (cl1_no (fun h => by have h9 := h.1; rw [HVM.out, c1] at h9; exact absurd h9 (by decide))))
            clear c1
            go_wp2_with (go_at_call 59; refine hcall.mono ?_; rintro e w' ⟨rfl, rfl⟩)
            go_roundg (L - x - 1)
            case measure => exact Nat.lt_of_lt_of_le (iz9 HX.out) HGX.out
            case rel => exact ⟨x + 1, congrArg (Value.int .i64) (iz7 HX.out HLL.out), HX.out, Nat.le_refl _, ⟨by rw [HNX.out]; exact RK.out⟩⟩
          · obtain ⟨c1b0, c1b1⟩ := dQ c1
            by_cases c2 : kv = 99999
            · obtain ⟨c2b0, c2b1⟩ := dq c2
              have HNX := Aside0.mk (HSX.out.trans (cl1_no (fun h => by have h9 := h.2; rw [HKV.out, c2] at h9; exact absurd h9 (by decide))))
              clear c1 c2
              go_wp2_with (go_at_call 59; refine hcall.mono ?_; rintro e w' ⟨rfl, rfl⟩)
              go_roundg (L - x - 1)
              case measure => exact Nat.lt_of_lt_of_le (iz9 HX.out) HGX.out
              case rel => exact ⟨x + 1, congrArg (Value.int .i64) (iz7 HX.out HLL.out), HX.out, Nat.le_refl _, ⟨by rw [HNX.out]; exact RK.out⟩⟩
            · obtain ⟨c2b0, c2b1⟩ := dQ c2
              have HNX := Aside0.mk (HSX.out.trans (cl1_yes ⟨by rw [HVM.out]; exact lt_far HBM.out c1, by rw [HKV.out]; exact lt_far HKM.out c2⟩))
              rw [HVM.out, HKV.out] at HNX
              have hsum := va_sum HBM.out HKM.out
              clear c1 c2
              go_upto_region 11 with (go_at_call 59; refine hcall.mono ?_; rintro e w' ⟨rfl, rfl⟩)
              clear hAM hcall hx10
              replace RK := Aside0.mk RK.out.drew
              obtain ⟨vb, hvb⟩ : ∃ vb, D b = vb := ⟨_, rfl⟩
              obtain ⟨ji, hji⟩ : ∃ ji, mn vb (vm + kv) = ji := ⟨_, rfl⟩
              have hji_ : (if vm + kv < vb then vm + kv else vb) = ji := hji
              have hAM := (RK.out.put HN1.out HM0.out HM1.out 0).1
              obtain ⟨hAB, hfz, hput⟩ := RK.out.put HN1.out HB0.out HB1.out ji
              rw [HVM.out] at hAM
              rw [hvb] at hAB HNX
              rw [hji] at HNX
              have HP := Aside0.mk hput
              clear hput hvb hji
              refine start_ (n := 15) (S := fun w' => w'.cell? ⟨g7, m.toNat, none⟩ = some (.int .i64 vm) ∧ w'.cell? ⟨g7, b.toNat, none⟩ = some (.int .i64 vb)) (ds := [14]) (zt 15 0) (by kernel_rfl) rfl (by kernel_rfl) ⟨hAM, hAB⟩ (fun hHeld => ?_)
              refine with_tabW cb11_tab cb11_bits (fun HT_ HW_ => ?_)
              generalize wr.drew = w50 at RK HP hHeld hAM hAB hfz ⊢
              refine qz HT_ 0 ?_; refine qz HT_ 1 ?_; refine qz HT_ 2 ?_; refine qz HT_ 3 ?_; refine qz HT_ 4 ?_; refine qt HT_ HW_ hHeld 5 ?_; refine qz HT_ 6 ?_; refine qz HT_ 7 ?_; refine qz HT_ 8 ?_; refine qt HT_ HW_ hHeld 9 ?_; refine qz HT_ 10 ?_; refine qz HT_ 11 ?_; refine qz HT_ 12 ?_; refine qz HT_ 13 ?_
              refine last_ (i := 14) (N := none) (zt 15 32767) rfl rfl (one_of HT_.out (by kernel_rfl)) (by decide) (fun K hK => ?_); refine skip_ (w1 := ?_) (by rfl) rfl ?_ ?_; rotate_left
              · go_simp; rfl
              refine hK.out _ _ ?_; clear hK K; refine done_ (done_of HT_.out (by kernel_rfl)) ?_
              clear HT_ HW_ hHeld hAM hAB hfz
              try go_wp2
              go_roundg (L - x - 1)
              case measure => exact Nat.lt_of_lt_of_le (iz9 HX.out) HGX.out
              case rel => exact ⟨x + 1, congrArg (Value.int .i64) (iz7 HX.out HLL.out), HX.out, Nat.le_refl _, ⟨by rw [HNX.out]; exact HP.out⟩⟩
        · have hxz := DL (iz5 hx)
          have hq1 := eq_false (iz5 hx); have hq2 := eq_false hx
          have ex := iz6 hx hxl
          rw [ex] at RK
          have hab := abC_all K l1 (ndC K l1 (at0 s) i) i
          rw [HMD.out, HL.out] at hab
          have HNX := Aside0.mk (show ndC K l1 (at0 s) (i + 1) = abC K l1 (ndC K l1 (at0 s) i) i L from by rw [hab]; show clN K (rd l1 (i : Int)) _ _ = _; rw [HMD.out])
          clear hab hx hxl hgx ex
          go_wp2
          go_roundg (l1.length - i - 1)
          case measure => exact Nat.lt_of_lt_of_le (iz9 HI.out) HGI.out
          case rel => exact ⟨i + 1, congrArg (Value.int .i64) (iz7 HI.out HL8.out), HI.out, Nat.le_refl _, ⟨by rw [HNX.out]; exact RK.out⟩⟩
    · have hiz := DL (iz5 hi)
      have hq1 := eq_false (iz5 hi); have hq2 := eq_false hi
      have ei := iz6 hi hil
      rw [ei] at RK
      have hnd := ndC_all K l1 (at0 s)
      rw [hnd] at RK
      clear hnd hi hil hgi ei
      go_wp2
      go_ret
      exact ⟨_, rfl, RK.out.R7, RK.out.B⟩
end Go.Proofs.Ytdlaaccnaokdnaa.P
