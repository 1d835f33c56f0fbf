-- written for this claim by a program (wip/gen/myprint.py over the print tool). Not trusted: Lean checks it.
import Derived.Test.YtblpdfgplifccaaPx0
import Derived.Test.YtblpdfgplifccaaHUp
import Derived.Test.YtblpdfgplifccaaPFSpecL1Copy
namespace Go.Proofs.Ytblpdfgplifccaa.P
open Go.RowKit Go.Proofs.YtblpdfgplifccaaV.PrintWords Go.Proofs.YtblpdfgplifccaaV.PrintLast
set_option linter.unusedVariables false
set_option linter.unusedSimpArgs false

/-! ### spec_l9Net: function 62 -/
def spec_l9Net.l0 : Nat → List Int → Int → Int → List (S33) → Option (Int × (List (S33)))
 | 0, _, _, _, _ => none
 | k + 1, x1, x6, x108000, x108001 => if x6 < (x108001.length : Int) then (if 0 ≤ x6 then (if x6 < (x1.length : Int) then (spec_l9Net.l0 k x1 (wrap64 (x6 + 1)) x108000 (x108001.set (x6 : Int).toNat (⟨(rd_T33 x108001 x6).f0, (rd_T33 x108001 x6).f1, rd x1 x6, (rd_T33 x108001 x6).f3, (rd_T33 x108001 x6).f4⟩ : S33))) else (none)) else (none)) else (some (x108000, x108001))
def spec_l9Net.f (k : Nat) (a0_0 : Int) (l0_1 : List (S33)) (l1 : List Int) : Option (Int × (List (S33))) := (spec_l1Copy.f a0_0 l0_1).bind fun bt103 => (spec_l9Net.l0 k l1 0 bt103.1 bt103.2)
def spec_l9Net.T5 : Bool × List (List Nat × List Nat) := (true, [([], []), ([0], [0]), ([], []), ([], []), ([], []), ([3, 4], [3, 4]), ([5], [5]), ([1, 2, 0, 1, 2, 3, 4, 5, 6], [1, 2]), ([7, 0, 1, 2, 3, 4, 5, 6], [7]), ([8, 6, 0, 1, 2, 3, 4, 5, 6], [6, 8])])
def spec_l9Net.B5 : List Nat := [0, 1, 0, 0, 0, 24, 56, 127, 255, 511]
theorem spec_l9Net.tab5 : rtab .any (opsOf Try.f62 5) = spec_l9Net.T5 := by kernel_rfl
theorem spec_l9Net.bits5 : waitsOk spec_l9Net.T5.2 spec_l9Net.B5 = true := by kernel_rfl
set_option maxHeartbeats 8000000 in
set_option maxRecDepth 100000 in
theorem spec_l9Net.calls (k : Nat) (a0_0 : Int) (A0_1 : Option Addr) (c0_1 : Nat) (l0_1 : List (S33)) (A1 : Option Addr) (c1 : Nat) (l1 : List Int) (r1 : Int) (r2 : List (S33)) (w : World) (hr0_1 : Kd.C k33 w A0_1 l0_1.length l0_1) (hc0_1 : l0_1.length ≤ c0_1) (hr1 : Kd.C (Kd.int .i64) w A1 l1.length l1) (hc1 : l1.length ≤ c1) (h : spec_l9Net.f k a0_0 l0_1 l1 = some (r1, r2)) :
  Calls Try.prog 62 #[.agg #[.int .i64 a0_0, .slice A0_1 l0_1.length c0_1], .slice A1 l1.length c1] w fun e w' => ∃ v1_ : Value, e = .returned (.agg #[.int .i64 r1, v1_]) ∧ Kd.R k33 33 w' w.heap.size (fun _ => True) v1_ r2 ∧ Below w.heap.size w w' := by
 have hu25 := Try.underlying25
 have HR0_1 := Aside0.mk hr0_1
 have HC0_1 := Aside0.mk hc0_1
 clear hr0_1 hc0_1
 have HR1 := Aside0.mk hr1
 have HC1 := Aside0.mk hc1
 clear hr1 hc1
 have HB := Aside0.mk (Below.refl w.heap.size w)
 have H : ((spec_l1Copy.f a0_0 l0_1).bind fun bt103 => (spec_l9Net.l0 k l1 0 bt103.1 bt103.2)) = some (r1, r2) := h
 clear h
 replace H := Option.bind_eq_some_iff.mp H
 obtain ⟨⟨t103, t104⟩, A30, H⟩ := H
 replace H : (spec_l9Net.l0 k l1 0 t103 t104) = some (r1, r2) := H
 have A3 := Aside0.mk A30
 clear A30
 have H' := Aside0.mk H
 clear H
 go_enter Try.func62, Try.ntmps62
 go_wp2_with (first | ((with_reducible refine gate_dst (N := 2) rfl ?_); refine be (cs := #[.int .i64 a0_0, .slice A0_1 l0_1.length c0_1]) (t := 25) ?_; intro gb101 hg w4 hbox hb; have BK101 := Aside0.mk (hbox); have GW101 := gz w hg (uB0 HB); have GE101 := gz w hg (uB0 HB); replace HB := Aside0.mk (below_step (uB0 HB) hb); clear hb hbox hg) | ((with_reducible refine gate_dst (N := 4) rfl ?_); refine be (cs := #[.int .i64 0, .slice none 0 0]) (t := 25) ?_; intro gb102 hg w5 hbox hb; have BK102 := Aside0.mk (hbox); have GW102 := gz w hg (uB1 HB GE101.out); have GE102 := gz w hg (uB1 HB GE101.out); replace HB := Aside0.mk (below_step (uB1 HB GE101.out) hb); have NB101_102 := gl hg BK101; have NB102_101 := gr hg BK101; replace BK101 := bb BK101 hb; clear hb hbox hg; have hnb6 := NB101_102.out; have hnc6 := NB102_101.out; obtain ⟨hcz7_0, hcz7_1, hfz7_0, hfz7_1⟩ := bc2 BK101) | ((with_reducible refine gate_callee (f := 102) rfl ?_); refine goesL_ (some 8) rfl rfl Try.func102 (by kernel_rfl) rfl #[.agg #[.int .i64 a0_0, .slice A0_1 l0_1.length c0_1]] rfl ul ?_; (with_reducible refine (spec_l1Copy.calls a0_0 _ _ l0_1 t103 t104 _ ?side1 ?side2 A3.out).mono ?_); (case side1 => exact uC HR0_1 HB); (case side2 => exact HC0_1.out); rintro e w8 ⟨v105, rfl, ho0, hb⟩; refine ⟨_, rfl, ?_⟩; have HO106 := Aside0.mk (Kd.R_lower ho0 (below_size (uB2 HB GE101.out GE102.out))); replace BK101 := bb BK101 hb; replace BK102 := bb BK102 hb; replace HB := Aside0.mk (below_step (uB2 HB GE101.out GE102.out) hb); (try clear hb); (try clear hb2); (try clear hk); (try clear hi); (try clear ho0)) | ((with_reducible refine gate_dst (N := 5) rfl ?_); refine be (cs := #[.int .i64 0, .slice none 0 0]) (t := 25) ?_; intro gb107 hg w9 hbox hb; replace HO106 := Aside0.mk (Kd.R_below (ur HO106) hb); have BK107 := Aside0.mk (hbox); have GW107 := gz w hg (uB2 HB GE101.out GE102.out); have GE107 := gz w hg (uB2 HB GE101.out GE102.out); replace HB := Aside0.mk (below_step (uB2 HB GE101.out GE102.out) hb); have NB101_107 := gl hg BK101; have NB107_101 := gr hg BK101; replace BK101 := bb BK101 hb; have NB102_107 := gl hg BK102; have NB107_102 := gr hg BK102; replace BK102 := bb BK102 hb; clear hb hbox hg; have hnb10 := NB107_101.out; have hnc10 := NB101_107.out; have hnb11 := NB107_102.out; have hnc11 := NB102_107.out; obtain ⟨hcz12_0, hcz12_1, hfz12_0, hfz12_1⟩ := bc2 BK107; obtain ⟨Ao13, co13, eo13⟩ := Kd.R_slice HO106.out; subst eo13))
 go_loopg [6] k (fun kq v6 w' => ∃ (x6_1 : Int) (x108001_1 : List (S33)) (u108001 : Value), v6 = .int .i64 x6_1 ∧ Aside0 (spec_l9Net.l0 kq l1 x6_1 t103 x108001_1 = some (r1, r2)) ∧ Aside0 (kq ≤ k) ∧ Aside0 (Kd.R k33 33 w' w.heap.size (fun _ => True) u108001 x108001_1) ∧ Aside0 (w'.heap[gb101]? = some (.cells #[.int .i64 a0_0, (.slice A0_1 l0_1.length c0_1)] 25 (0, 0))) ∧ Aside0 (w'.heap[gb102]? = some (.cells #[.int .i64 0, (.slice none 0 0)] 25 (0, 0))) ∧ Aside0 (w'.heap[gb107]? = some (.cells #[.int .i64 t103, u108001] 25 (0, 0))) ∧ Aside0 (Below w.heap.size w w'))
 case atStart => exact ⟨(0), (t104), (.slice Ao13 t104.length co13), ue, H', ⟨Nat.le_refl _⟩, ⟨by (with_reducible repeat (first | apply Kd.R_alloc | apply Kd.R_drewN | apply Kd.R_drew)); exact Kd.R_mono (rf2 HO106 BK107) (fun _ hk => trivial)⟩, ⟨by (with_reducible repeat first | apply zbn | apply zbd | apply zba); refine fa2 ?_ NB101_107; exact ub BK101⟩, ⟨by (with_reducible repeat first | apply zbn | apply zbd | apply zba); refine fa2 ?_ NB102_107; exact ub BK102⟩, ⟨by (with_reducible repeat first | apply zbn | apply zbd | apply zba); refine pu2 (.int .i64 0) (.slice none 0 0) ?_; exact ub BK107⟩, ⟨uB3 HB GE101.out GE102.out GE107.out⟩⟩
 case round =>
  clear H'; try clear c1
  try clear p2
  try clear c6
  try clear c10
  try clear c11
  try clear hcz12_0 hcz12_1
  try clear hcz7_0 hcz7_1
  try clear hfz12_0 hfz12_1
  try clear hfz7_0 hfz7_1
  obtain ⟨x6_1, x108001_1, u108001, rfl, HA, HK1, HO_108001, BK101, BK102, BK107, HB⟩ := hrel
  cases gk with
  | zero => exact absurd HA.out (by simp [spec_l9Net.l0])
  | succ k1 =>
   have H := HA.out; clear HA; simp only [spec_l9Net.l0] at H; by_cases c14 : x6_1 < (x108001_1.length : Int)
   ·
    rw [if_pos c14] at H; have c14b0 := dl c14; clear c14; by_cases c15 : 0 ≤ x6_1
    ·
     rw [if_pos c15] at H; have c15b0 := de c15; clear c15; by_cases c16 : x6_1 < (l1.length : Int)
     ·
      rw [if_pos c16] at H; have c16b0 := dl c16; clear c16; obtain ⟨y109, hy109⟩ : ∃ y_ : List (S33), y_ = (x108001_1.set (x6_1 : Int).toNat (⟨(rd_T33 x108001_1 x6_1).f0, (rd_T33 x108001_1 x6_1).f1, rd l1 x6_1, (rd_T33 x108001_1 x6_1).f3, (rd_T33 x108001_1 x6_1).f4⟩ : S33)) := ⟨_, rfl⟩
      replace H : (spec_l9Net.l0 k1 l1 (wrap64 (x6_1 + 1)) t103 y109) = some (r1, r2) := by first | (rw [hy109]; with_reducible exact H) | (have H2_ := (Option.bind_some _ _).symm.trans H; rw [hy109]; with_reducible exact H2_) | (have H2_ := (Option.bind_some _ _).symm.trans H; with_reducible exact H2_) | with_reducible exact H | (rw [hy109]; exact H) | exact H
      have Ny109 := Aside0.mk hy109; clear hy109; have H' := Aside0.mk H; clear H; have hnb18 := NB107_101.out; have hnc18 := NB101_107.out; have hnb19 := NB107_102.out; have hnc19 := NB102_107.out; obtain ⟨hcz20_0, hcz20_1, hfz20_0, hfz20_1⟩ := bc2 BK107; obtain ⟨Ao21, co21, eo21⟩ := Kd.R_slice HO_108001.out; subst eo21; try go_wp2
      replace HO_108001 := Aside0.mk (Kd.R_drew HO_108001.out); replace BK101 := Aside0.mk (blk_drew BK101.out); replace BK102 := Aside0.mk (blk_drew BK102.out); replace BK107 := Aside0.mk (blk_drew BK107.out); replace HB := Aside0.mk (below_drew1 HB.out); have p108 : 0 ≤ (x6_1 : Int) := ua; have q108 : x6_1 < (l1.length : Int) := ua; obtain ⟨ad108, e108, hx108_0⟩ := Kd.at_int HR1.out x6_1 p108 q108; have hw108_0 := hx108_0
      cases e108
      replace hx108_0 := uc HB hx108_0; replace p108 := eq_true p108; replace q108 := eq_true q108; have p17 : 0 ≤ (x6_1 : Int) := ua; have q17 : (x6_1 : Int) < ((x108001_1.length : Int) : Int) := ua; obtain ⟨go17, co17, eo17, gb17, gl17, cl17, HG17⟩ := Kd.R_form HO_108001.out (by omega); (first | cases eo17 | (injection eo17 with ea_ en_ ec_; (first | subst ea_ | (injection ea_ with ea_; subst ea_)); subst ec_; clear en_)); have GB17 := Aside0.mk gb17; have GG17 := Aside0.mk HG17; clear gb17 gl17 HG17; obtain ⟨ce17, hcl17, hM17, hcc17, hfr17⟩ := Kd.R_elem HO_108001.out z33 (x6_1 : Int) p17 q17; obtain rfl := k33_openM hM17; have hx17_0 : World.cell? _ ⟨go17, (x6_1 : Int).toNat * 5, none⟩ = some (.int .i64 ((rd_T33 x108001_1 x6_1).f0)) := hcc17 0 _ rfl; have hx17_1 : World.cell? _ ⟨go17, (x6_1 : Int).toNat * 5 + 1, none⟩ = some (.int .i64 ((rd_T33 x108001_1 x6_1).f1)) := hcc17 1 _ rfl; have hx17_2 : World.cell? _ ⟨go17, (x6_1 : Int).toNat * 5 + 2, none⟩ = some (.int .i64 ((rd_T33 x108001_1 x6_1).f2)) := hcc17 2 _ rfl; have hx17_3 : World.cell? _ ⟨go17, (x6_1 : Int).toNat * 5 + 3, none⟩ = some (.int .i64 ((rd_T33 x108001_1 x6_1).f3)) := hcc17 3 _ rfl; have hx17_4 : World.cell? _ ⟨go17, (x6_1 : Int).toNat * 5 + 4, none⟩ = some (.int .i64 ((rd_T33 x108001_1 x6_1).f4)) := hcc17 4 _ rfl; have hf17_0 : World.frozen? _ ⟨go17, (x6_1 : Int).toNat * 5, none⟩ = false := hfr17 0; have hf17_1 : World.frozen? _ ⟨go17, (x6_1 : Int).toNat * 5 + 1, none⟩ = false := hfr17 1; have hf17_2 : World.frozen? _ ⟨go17, (x6_1 : Int).toNat * 5 + 2, none⟩ = false := hfr17 2; have hf17_3 : World.frozen? _ ⟨go17, (x6_1 : Int).toNat * 5 + 3, none⟩ = false := hfr17 3; have hf17_4 : World.frozen? _ ⟨go17, (x6_1 : Int).toNat * 5 + 4, none⟩ = false := hfr17 4; clear hcl17 hcc17 hfr17 hM17; replace p17 := eq_true p17; replace q17 := eq_true q17; obtain ⟨ce23, hcl23, hM23, hcc23, hfr23⟩ := Kd.R_elem HO_108001.out z33 (x6_1 : Int) (ua) (by have h_ : (x6_1 : Int) < ((x108001_1.length : Int) : Int) := ua; first | exact h_ | (have e_ := (Kd.R_reads' HO_108001.out).1; omega) | simpa using h_); obtain rfl := k33_openM hM23; have HP23 := (Kd.R_seg HO_108001.out (x6_1 : Int) (ua) (by have h_ : (x6_1 : Int) < ((x108001_1.length : Int) : Int) := ua; first | exact h_ | (have e_ := (Kd.R_reads' HO_108001.out).1; omega) | simpa using h_) (seg := [.int .i64 (rd l1 x6_1)]) (j := 2) hcl23 hcc23 (show 3 ≤ 5 from by decide) (x' := (⟨(rd_T33 x108001_1 x6_1).f0, (rd_T33 x108001_1 x6_1).f1, rd l1 x6_1, (rd_T33 x108001_1 x6_1).f3, (rd_T33 x108001_1 x6_1).f4⟩ : S33)) (k33_mkM _ _ _ (⟨(rd_T33 x108001_1 x6_1).f0, (rd_T33 x108001_1 x6_1).f1, rd l1 x6_1, (rd_T33 x108001_1 x6_1).f3, (rd_T33 x108001_1 x6_1).f4⟩ : S33) ) (fun _ hk => hk)).1; rw [← Ny109.out] at HP23; have HQ23 := Aside0.mk HP23; clear hcl23 hcc23 hfr23 hM23 HP23; refine start_ (n := 10) (S := fun w' => w'.cell? ⟨gb107, 0, none⟩ = some (.int .i64 t103) ∧ w'.cell? ⟨gb107, 1, none⟩ = some (.slice (some ⟨go17, 0, none⟩) x108001_1.length co21) ∧ w'.cell? (ad108.add (x6_1).toNat) = some (.int .i64 (rd l1 x6_1))) (ds := [9]) (zt 10 0) (by kernel_rfl) rfl (by kernel_rfl) (b2x BK107 (ud HB hw108_0)) (fun hHeld => ?_); refine with_tabW spec_l9Net.tab5 spec_l9Net.bits5 (fun HT_ HW_ => ?_); generalize wr.drew = w22 at HO_108001 BK101 BK102 BK107 HB GG17 HQ23 hf17_0 hf17_1 hf17_2 hf17_3 hf17_4 hx108_0 hx17_0 hx17_1 hx17_2 hx17_3 hx17_4 hHeld ⊢; refine qz HT_ 0 ?_; refine qz HT_ 2 ?_; refine qz HT_ 3 ?_; refine qz HT_ 4 ?_; refine qz HT_ 5 ?_; refine qt HT_ HW_ hHeld 1 ?_; refine qt HT_ HW_ hHeld 6 ?_; refine qz HT_ 7 ?_; refine qz HT_ 8 ?_; refine last_ (i := 9) (N := none) (zt 10 1023) rfl rfl (one_of HT_.out (by kernel_rfl)) (by decide) (fun K hK => ?_); refine skip_ (w1 := ?_) (by rfl) rfl ?_ ?_; rotate_left
      ·
       go_simp; rfl
      refine hK.out _ _ ?_; clear hK K; refine done_ (done_of HT_.out (by kernel_rfl)) ?_; try go_wp2
      go_roundg k1
      case measure => have := HK1.out; omega
      case rel => exact ⟨(wrap64 (x6_1 + 1)), (y109), (.slice (some ⟨go17, 0, none⟩) x108001_1.length co21), ue, H', ⟨by have := HK1.out; omega⟩, ⟨ur HQ23⟩, ⟨by (with_reducible repeat first | apply zbn | apply zbd | apply zba); refine blk_far ?_ (by have h_ := Kd.R_ne HO_108001.out BK101.out (by decide); intro e_; exact h_ (by rw [e_]; rfl)) _; exact ub BK101⟩, ⟨by (with_reducible repeat first | apply zbn | apply zbd | apply zba); refine blk_far ?_ (by have h_ := Kd.R_ne HO_108001.out BK102.out (by decide); intro e_; exact h_ (by rw [e_]; rfl)) _; exact ub BK102⟩, ⟨by (with_reducible repeat first | apply zbn | apply zbd | apply zba); refine blk_far ?_ (by have h_ := Kd.R_ne HO_108001.out BK107.out (by decide); intro e_; exact h_ (by rw [e_]; rfl)) _; exact ub BK107⟩, ⟨uB4 HB GB17.out GE101.out GE102.out GE107.out⟩⟩
     ·
      rw [if_neg c16] at H; exact absurd H (by simp)
    ·
     rw [if_neg c15] at H; exact absurd H (by simp)
   ·
    rw [if_neg c14] at H; have c14b0 := DL c14; clear c14; simp only [Option.some.injEq, Prod.mk.injEq] at H; obtain ⟨rfl, rfl⟩ := H; have hnb24 := NB107_101.out; have hnc24 := NB101_107.out; have hnb25 := NB107_102.out; have hnc25 := NB102_107.out; obtain ⟨hcz26_0, hcz26_1, hfz26_0, hfz26_1⟩ := bc2 BK107; obtain ⟨Ao27, co27, eo27⟩ := Kd.R_slice HO_108001.out; subst eo27; have hnb28 := NB102_101.out; have hnc28 := NB101_102.out; obtain ⟨hcz29_0, hcz29_1, hfz29_0, hfz29_1⟩ := bc2 BK102; go_wp2; refine bodyPost_ret (results_cell_row rfl _ _ gb102 25 #[.int .i64 t103, .slice Ao27 x108001_1.length co27] (0, 0) _ rfl (by (with_reducible repeat first | apply zbn | apply zbd | apply zba); refine pu2 (.int .i64 0) (.slice none 0 0) ?_; exact ub BK102) Try.underlying25 rfl (by kernel_rfl)) rfl ?_; exact ⟨_, by first | rfl | (simp [errW_none, errW_some] <;> rfl) | (simp [*, errW_none, errW_some] <;> rfl), by (with_reducible repeat (first | apply Kd.R_alloc | apply Kd.R_drewN | apply Kd.R_drew)); exact Kd.R_mono (rf2 HO_108001 BK102) (fun _ hk => trivial), uB3 HB GE101.out GE102.out GE107.out⟩

end Go.Proofs.Ytblpdfgplifccaa.P
