-- written for this claim by a program (wip/gen/myprint.py over the print tool). Not trusted: Lean checks it.
import Derived.Test.YtdlaaccnaokdnaaPx0
import Derived.Test.YtdlaaccnaokdnaaHUp
namespace Go.Proofs.Ytdlaaccnaokdnaa.P
open Go.RowKit Go.Proofs.YtdlaaccnaokdnaaV.PrintWords Go.Proofs.YtdlaaccnaokdnaaV.PrintLast
set_option linter.unusedVariables false
set_option linter.unusedSimpArgs false

/-! ### spec_l8Grid: function 102 -/
mutual
def spec_l8Grid.l0 : Nat → List (List Int) → Int → Int → List (S61) → Option ((List (List Int)))
 | 0, _, _, _, _ => none
 | k + 1, x3, x4, x102000, x102001 => if x4 < x102000 then (if 0 ≤ x102000 then (if (x102000 : Int).toNat ≤ 35184372088832 then (spec_l8Grid.l1 k x3 x4 (List.replicate (x102000 : Int).toNat 0) 0 x102000 x102001) else (none)) else (none)) else (spec_l8Grid.l2 k x3 0 x102000 x102001)
def spec_l8Grid.l1 : Nat → List (List Int) → Int → List Int → Int → Int → List (S61) → Option ((List (List Int)))
 | 0, _, _, _, _, _, _ => none
 | k + 1, x3, x4, x5, x6, x102000, x102001 => if x6 < x102000 then (if 0 ≤ x6 then (if x6 < (x5.length : Int) then (spec_l8Grid.l1 k x3 x4 (x5.set (x6 : Int).toNat 99999) (wrap64 (x6 + 1)) x102000 x102001) else (none)) else (none)) else (if x3.length < 5864062014805 then (spec_l8Grid.l0 k (x3 ++ [x5]) (wrap64 (x4 + 1)) x102000 x102001) else (none))
def spec_l8Grid.l2 : Nat → List (List Int) → Int → Int → List (S61) → Option ((List (List Int)))
 | 0, _, _, _, _ => none
 | k + 1, x3, x7, x102000, x102001 => if x7 < (x102001.length : Int) then (if 0 ≤ x7 then (if 0 ≤ ((rd_T61 x102001 x7).f0) then (if ((rd_T61 x102001 x7).f0) < (x3.length : Int) then (if 0 ≤ ((rd_T61 x102001 x7).f1) then (if ((rd_T61 x102001 x7).f1) < ((rd_L5 x3 ((rd_T61 x102001 x7).f0)).length : Int) then (if ((rd_T61 x102001 x7).f2) < (rd (rd_L5 x3 ((rd_T61 x102001 x7).f0)) ((rd_T61 x102001 x7).f1)) then (spec_l8Grid.l2 k (x3.set (((rd_T61 x102001 x7).f0) : Int).toNat ((rd_L5 x3 ((rd_T61 x102001 x7).f0)).set (((rd_T61 x102001 x7).f1) : Int).toNat ((rd_T61 x102001 x7).f2))) (wrap64 (x7 + 1)) x102000 x102001) else (spec_l8Grid.l2 k x3 (wrap64 (x7 + 1)) x102000 x102001)) else (none)) else (none)) else (none)) else (none)) else (none)) else (some x3)
end
def spec_l8Grid.f (k : Nat) (a0_0 : Int) (l0_1 : List (S61)) : Option ((List (List Int))) := spec_l8Grid.l0 k (([] : List (List Int))) 0 a0_0 l0_1
def spec_l8Grid.T15 : Bool × List (List Nat × List Nat) := (true, [([], []), ([0], [0]), ([], []), ([], []), ([3], [3]), ([2, 4], [2, 4]), ([5], [5]), ([], []), ([7], [7]), ([6, 8], [6, 8]), ([9], [9]), ([1, 10], [1, 10])])
def spec_l8Grid.B15 : List Nat := [0, 1, 0, 0, 8, 28, 60, 0, 128, 508, 1020, 2047]
theorem spec_l8Grid.tab15 : rtab .any (opsOf Try.f102 15) = spec_l8Grid.T15 := by kernel_rfl
theorem spec_l8Grid.bits15 : waitsOk spec_l8Grid.T15.2 spec_l8Grid.B15 = true := by kernel_rfl
def spec_l8Grid.T16 : Bool × List (List Nat × List Nat) := (true, [([], []), ([], []), ([1], [1]), ([0, 2], [0, 2]), ([3], [3]), ([], []), ([5], [5]), ([], []), ([7], [7]), ([4, 6, 0, 1, 2, 3, 4, 5, 6, 7, 8], [4, 6]), ([9, 8, 0, 1, 2, 3, 4, 5, 6, 7, 8], [8, 9])])
def spec_l8Grid.B16 : List Nat := [0, 0, 2, 7, 15, 0, 32, 0, 128, 511, 1023]
theorem spec_l8Grid.tab16 : rtab .any (opsOf Try.f102 16) = spec_l8Grid.T16 := by kernel_rfl
theorem spec_l8Grid.bits16 : waitsOk spec_l8Grid.T16.2 spec_l8Grid.B16 = true := by kernel_rfl
set_option maxHeartbeats 8000000 in
set_option maxRecDepth 100000 in
theorem spec_l8Grid.calls (k : Nat) (a0_0 : Int) (A0_1 : Option Addr) (c0_1 : Nat) (l0_1 : List (S61)) (r : List (List Int)) (w : World) (hr0_1 : Kd.C k61 w A0_1 l0_1.length l0_1) (hc0_1 : l0_1.length ≤ c0_1) (h : spec_l8Grid.f k a0_0 l0_1 = some r) :
  Calls Try.prog 102 #[.agg #[.int .i64 a0_0, .slice A0_1 l0_1.length c0_1]] w fun e w' => ∃ v0_ : Value, e = .returned (v0_) ∧ Kd.S (Kd.slice 3 (Kd.int .i64)) 25 w' w.heap.size (fun _ => True) v0_ r ∧ Below w.heap.size w w' := by
 have hu35 := Try.underlying35
 have hu61 := Try.underlying61
 have j0n := Aside0.mk hr0_1
 have j1H := Aside0.mk hc0_1
 clear hr0_1 hc0_1
 have HB := Aside0.mk (Below.refl w.heap.size w)
 have H : (spec_l8Grid.l0 k (([] : List (List Int))) 0 a0_0 l0_1) = some r := h
 clear h
 obtain ⟨j0o, jn⟩ : ∃ y_ : List (List Int), y_ = (([] : List (List Int))) := ⟨_, rfl⟩
 replace H : (spec_l8Grid.l0 k j0o 0 a0_0 l0_1) = some r := by first | (rw [jn]; with_reducible exact H) | (have H2_ := (Option.bind_some _ _).symm.trans H; rw [jn]; with_reducible exact H2_) | (have H2_ := (Option.bind_some _ _).symm.trans H; with_reducible exact H2_) | with_reducible exact H | (rw [jn]; exact H) | exact H
 have j0p := Aside0.mk jn
 clear jn
 have H' := Aside0.mk H
 clear H
 go_enter Try.func102, Try.ntmps102
 go_wp2_with (first | ((with_reducible refine gate_dst (N := 1) rfl ?_); refine be (cs := #[.int .i64 a0_0, .slice A0_1 l0_1.length c0_1]) (t := 35) ?_; intro jo hg w2 hbox hb; have j2 := Aside0.mk (hbox); have j1I := gz w hg (uB0 HB); have j4 := gz w hg (uB0 HB); replace HB := Aside0.mk (below_step (uB0 HB) hb); clear hb hbox hg) | ((with_reducible refine gate_dst (N := 9) rfl ?_); refine Kd.S_lit (Kd.slice 3 (Kd.int .i64)) _ 25 ?hg (N := 9) ?hd (xs := ([] : List (List Int))) (inner := []) (ok := fun _ => True) (okp := fun _ => True) ?hr ?hp (fun _ hk => hk) trivial (Below.refl _ _) (Nat.le_refl _) (by simp) ?_; (case hd => rfl); (case hg => rfl); (case hr => first | (go_simp; done) | (go_simp; rfl)); (case hp => exact (Reps.none _ _)); intro v103 w3 ho4 hb hg_ hnew_; clear hg_ hnew_; (rw [← j0p.out] at ho4); have j0q := Aside0.mk (Kd.S_lower ho4 (below_size (uB1 HB j4.out))); replace j2 := bb j2 hb; replace HB := Aside0.mk (below_step (uB1 HB j4.out) hb); clear hb ho4))
 go_loopg [3, 4] k (fun kq v3 v4 w' => ∃ (jg : List (List Int)) (jj : Int), v4 = .int .i64 jj ∧ Aside0 (spec_l8Grid.l0 kq jg jj a0_0 l0_1 = some r) ∧ Aside0 (kq ≤ k) ∧ Aside0 (Kd.S (Kd.slice 3 (Kd.int .i64)) 25 w' w.heap.size (fun _ => True) v3 jg) ∧ Aside0 (w'.heap[jo]? = some (.cells #[.int .i64 a0_0, (.slice A0_1 l0_1.length c0_1)] 35 (0, 0))) ∧ Aside0 (Below w.heap.size w w'))
 case atStart => exact ⟨(j0o), (0), ue, H', ⟨Nat.le_refl _⟩, ⟨by (with_reducible repeat (first | apply Kd.S_alloc | apply Kd.S_drewN | apply Kd.S_drew)); exact j0q.out⟩, ⟨ub j2⟩, ⟨uB1 HB j4.out⟩⟩
 case round =>
  clear H'
  obtain ⟨jg, jj, rfl, HA, HK1, j3, j2, HB⟩ := hrel
  cases gk with
  | zero => exact absurd HA.out (by simp [spec_l8Grid.l0])
  | succ k1 =>
   have H := HA.out; clear HA; simp only [spec_l8Grid.l0] at H; by_cases c5 : jj < a0_0
   ·
    rw [if_pos c5] at H; have j01 := dl c5; clear c5; by_cases c6 : 0 ≤ a0_0
    ·
     rw [if_pos c6] at H; have j1j := eq_true c6; have j1k := de c6; clear c6; by_cases c7 : (a0_0 : Int).toNat ≤ 35184372088832
     ·
      rw [if_pos c7] at H; have j1l := eq_true c7; have j1m := de c7; clear c7; obtain ⟨j0r, jp⟩ : ∃ y_ : List Int, y_ = (List.replicate (a0_0 : Int).toNat 0) := ⟨_, rfl⟩
      replace H : (spec_l8Grid.l1 k1 jg jj j0r 0 a0_0 l0_1) = some r := by first | (rw [jp]; with_reducible exact H) | (have H2_ := (Option.bind_some _ _).symm.trans H; rw [jp]; with_reducible exact H2_) | (have H2_ := (Option.bind_some _ _).symm.trans H; with_reducible exact H2_) | with_reducible exact H | (rw [jp]; exact H) | exact H
      have j0s := Aside0.mk jp; clear jp; have H' := Aside0.mk H; clear H; obtain ⟨j02, j03, j04, j05⟩ := bc2 j2; go_wp2_with (((with_reducible refine gate_dst (N := 18) rfl ?_); refine Kd.R_make (Kd.int .i64) _ 3 rfl (N := 18) rfl 25 _ _ rfl a0_0 rfl rfl Try.underlying25 (.int .i64 0) 8 info3 rfl (by decide) (by omega) 0 (ok := fun _ => True) (okp := fun _ => True) rfl (fun _ hk => hk) trivial (ua) (Nat.le_trans (Nat.mul_le_mul_right _ (ua : a0_0.toNat ≤ 35184372088832)) (by omega)) (Below.refl _ _) (Nat.le_refl _) ?_; intro v106 w9 ho10 hb hg_ hnew_; clear hg_ hnew_; (rw [← j0s.out] at ho10); replace j3 := Aside0.mk (Kd.S_elder' (by (with_reducible repeat (first | apply Kd.S_alloc | apply Kd.S_drewN | apply Kd.S_drew)); exact j3.out) (Kd.R_base ho10) hb); have j0t := Aside0.mk (Kd.R_lower ho10 (below_size (uB1 HB j4.out))); replace j2 := bb j2 hb; replace HB := Aside0.mk (below_step (uB1 HB j4.out) hb); clear hb ho10)); go_loopg [6] k1 (fun kq v6 w' => ∃ (jb : List Int) (j7 : Int), v6 = .int .i64 j7 ∧ Aside0 (spec_l8Grid.l1 kq jg jj jb j7 a0_0 l0_1 = some r) ∧ Aside0 (kq ≤ k1) ∧ Aside0 (Kd.S (Kd.slice 3 (Kd.int .i64)) 25 w' w.heap.size (fun k_ => some k_ ≠ (v106 : Value).ownBlock) u3 jg) ∧ Aside0 (Kd.R (Kd.int .i64) 3 w' w.heap.size (fun _ => True) v106 jb) ∧ Aside0 (w'.heap[jo]? = some (.cells #[.int .i64 a0_0, (.slice A0_1 l0_1.length c0_1)] 35 (0, 0))) ∧ Aside0 (Below w.heap.size w w'))
      case atStart => exact ⟨(j0r), (0), ue, H', ⟨Nat.le_refl _⟩, ⟨by (with_reducible repeat (first | apply Kd.S_alloc | apply Kd.S_drewN | apply Kd.S_drew)); exact Kd.S_mono j3.out (fun _ hk => hk.2)⟩, ⟨ur j0t⟩, ⟨ub j2⟩, ⟨uB1 HB j4.out⟩⟩
      case round =>
       clear H'
       clear j01 j1j j1k j1l j1m j02 j03 j04 j05
       obtain ⟨jb, j7, rfl, HA, HK2, j3, jh, j2, HB⟩ := hrel
       cases gk with
       | zero => exact absurd HA.out (by simp [spec_l8Grid.l1])
       | succ k2 =>
        have H := HA.out; clear HA; simp only [spec_l8Grid.l1] at H; by_cases c11 : j7 < a0_0
        ·
         rw [if_pos c11] at H; have j0u := dl c11; clear c11; by_cases c12 : 0 ≤ j7
         ·
          rw [if_pos c12] at H; have j1J := de c12; clear c12; by_cases c13 : j7 < (jb.length : Int)
          ·
           rw [if_pos c13] at H; have j1K := dl c13; clear c13; obtain ⟨j06, jq⟩ : ∃ y_ : List Int, y_ = (jb.set (j7 : Int).toNat 99999) := ⟨_, rfl⟩
           replace H : (spec_l8Grid.l1 k2 jg jj j06 (wrap64 (j7 + 1)) a0_0 l0_1) = some r := by first | (rw [jq]; with_reducible exact H) | (have H2_ := (Option.bind_some _ _).symm.trans H; rw [jq]; with_reducible exact H2_) | (have H2_ := (Option.bind_some _ _).symm.trans H; with_reducible exact H2_) | with_reducible exact H | (rw [jq]; exact H) | exact H
           have j0v := Aside0.mk jq; clear jq; have H' := Aside0.mk H; clear H; obtain ⟨j0P, j0Q, j0R, j0S⟩ := bc2 j2; have p14 : 0 ≤ (j7 : Int) := ua; have q14 : (j7 : Int) < ((jb.length : Int) : Int) := ua; obtain ⟨jG, j07, j1n, j0w, j1o, j1W, j0x⟩ := Kd.R_form jh.out (by omega); (cases j1n); have j1p := Aside0.mk j0w; have j1X := Aside0.mk j0x; clear j0w j1o j0x; obtain ⟨j1q, j1r⟩ := Kd.R_celln 0 jh.out (j7 : Int) p14 q14; replace p14 := eq_true p14; replace q14 := eq_true q14; have j08 := Kd.R_putg jh.out (j7 : Int) 99999; go_wp2_with (((with_reducible refine gate_store (t := 3) (p := 27) rfl ?_); refine store_event (t := 3) (p := 27) (v := ?vo_w17) (w1 := (wr.setCell ⟨jG, (j7 : Int).toNat, none⟩ (.int .i64 99999))) ?hg ?ho ?hn ?hr ?_; (case ho => rfl); (case hg => rfl); (case hn => rfl); (case hr => first | (go_simp; done) | (go_simp; rfl)); intro w17 hw; have hg : wr.grownBy w17 (some jG) := (by rw [hw]; exact j08.2); have hp_ : Kd.R (Kd.int .i64) 3 w17 w.heap.size (fun _ => True) (.slice (some ⟨jG, 0, none⟩) jb.length j07) j06 := (by rw [hw, j0v.out]; exact j08.1); clear j08; replace j3 := Aside0.mk (Kd.S_after (v := (.slice (some ⟨jG, 0, none⟩) jb.length j07)) (v1 := (.slice (some ⟨jG, 0, none⟩) jb.length j07)) (ok := (fun _ => True)) (by (with_reducible repeat (first | apply Kd.S_alloc | apply Kd.S_drewN | apply Kd.S_drew)); exact Kd.S_mono j3.out (fun _ hk => ⟨trivial, hk⟩)) hg (.inl rfl)); replace j2 := bg j2 hg (Kd.R_ne jh.out j2.out (by decide)); replace jh := Aside0.mk (hp_); replace HB := Aside0.mk ((by rw [hw]; exact below_set (HB.out) j1p.out : Below w.heap.size w w17)); clear hg hw hp_)); go_roundg k2
           case measure => have := HK1.out; have := HK2.out; omega
           case rel => exact ⟨(j06), (wrap64 (j7 + 1)), ue, H', ⟨by have := HK1.out; have := HK2.out; omega⟩, ⟨by (with_reducible repeat (first | apply Kd.S_alloc | apply Kd.S_drewN | apply Kd.S_drew)); exact Kd.S_mono j3.out (fun _ hk => hk.2)⟩, ⟨ur jh⟩, ⟨ub j2⟩, ⟨uB1 HB j4.out⟩⟩
          ·
           rw [if_neg c13] at H; exact absurd H (by simp)
         ·
          rw [if_neg c12] at H; exact absurd H (by simp)
        ·
         rw [if_neg c11] at H; have j0u := DL c11; clear c11; by_cases c18 : jg.length < 5864062014805
         ·
          rw [if_pos c18] at H; have j0y := Aside0.mk c18; clear c18; obtain ⟨j0z, jr⟩ : ∃ y_ : List (List Int), y_ = (jg ++ [jb]) := ⟨_, rfl⟩
          replace H : (spec_l8Grid.l0 k2 j0z (wrap64 (jj + 1)) a0_0 l0_1) = some r := by first | (rw [jr]; with_reducible exact H) | (have H2_ := (Option.bind_some _ _).symm.trans H; rw [jr]; with_reducible exact H2_) | (have H2_ := (Option.bind_some _ _).symm.trans H; with_reducible exact H2_) | with_reducible exact H | (rw [jr]; exact H) | exact H
          have j0A := Aside0.mk jr; clear jr; have H' := Aside0.mk H; clear H; obtain ⟨j0T, j0U, j0V, j0W⟩ := bc2 j2; obtain ⟨j0B, j0C, j1s⟩ := Kd.R_slice jh.out; subst j1s; go_wp2_with (((with_reducible refine gate_builtin (b := .append) (xs := #[.tmp 28, .tmp 30]) rfl ?_); at_builtin; refine Kd.S_append (Kd.slice 3 (Kd.int .i64)) (w0 := w) w.heap.size rfl (.tmp 28) (.tmp 30) 26 25 (.slice none 0 0) 24 rfl Try.underlying26 info25 rfl (by decide) (by omega) u3 jg jb [.slice j0B jb.length j0C] (fun _ => True) (fun k_ => some k_ = (.slice j0B jb.length j0C : Value).ownBlock) rfl rfl ?aP (fun k_ hk_ => ((Kd.R_mono (ok' := fun k_ => ((fun _ => True)) k_ ∧ some k_ ≠ (u3 : Value).ownBlock) (Kd.R_apart' (jh.out) (Kd.S_typed j3.out) (by decide)) (fun k_ hk => ⟨trivial, hk.2⟩))).1 k_ hk_.symm) ?aF ?aO ?aB ?aS ?aL ?_; (case aP => exact Kd.M_row (Kd.R_mono (Kd.R_tight rfl (Kd.R_mono (ok' := fun k_ => ((fun _ => True)) k_ ∧ some k_ ≠ (u3 : Value).ownBlock) (Kd.R_apart' (jh.out) (Kd.S_typed j3.out) (by decide)) (fun k_ hk => ⟨trivial, hk.2⟩))) (fun _ h_ => h_))); (case aB => exact (uB1 HB j4.out)); (case aF => exact (fun _ _ => trivial)); (case aO => exact (by (with_reducible repeat (first | apply Kd.S_alloc | apply Kd.S_drewN | apply Kd.S_drew)); exact Kd.S_mono j3.out (fun k_ hk => ⟨trivial, fun e_ => hk e_⟩))); (case aS => exact (below_size (uB1 HB j4.out))); (case aL => have := j0y.out; omega); intro v110 w20 ho hb hg hat; rw [← j0A.out] at ho; replace j2 := Aside0.mk (blk_grown (g := jo) (o := .cells #[.int .i64 a0_0, .slice A0_1 l0_1.length c0_1] 35 (0, 0)) (ub j2) hg (Kd.S_ne j3.out j2.out (by decide))); replace HB := Aside0.mk (hb); have j0D := Aside0.mk (ho); clear j3; clear jh; clear ho hb hg hat)); go_roundg k2
          case measure => have := HK1.out; have := HK2.out; omega
          case rel => exact ⟨(j0z), (wrap64 (jj + 1)), ue, H', ⟨by have := HK1.out; have := HK2.out; omega⟩, ⟨by (with_reducible repeat (first | apply Kd.S_alloc | apply Kd.S_drewN | apply Kd.S_drew)); exact j0D.out⟩, ⟨ub j2⟩, ⟨uB1 HB j4.out⟩⟩
         ·
          rw [if_neg c18] at H; exact absurd H (by simp)
     ·
      rw [if_neg c7] at H; exact absurd H (by simp)
    ·
     rw [if_neg c6] at H; exact absurd H (by simp)
   ·
    rw [if_neg c5] at H; have j01 := DL c5; clear c5; have H' := Aside0.mk H; clear H; obtain ⟨jM, jN, jO, jP⟩ := bc2 j2; go_wp2; go_loopg [7] k1 (fun kq v7 w' => ∃ (j5 : List (List Int)) (j0 : Int), v7 = .int .i64 j0 ∧ Aside0 (spec_l8Grid.l2 kq j5 j0 a0_0 l0_1 = some r) ∧ Aside0 (kq ≤ k1) ∧ Aside0 (Kd.S (Kd.slice 3 (Kd.int .i64)) 25 w' w.heap.size (fun _ => True) u3 j5) ∧ Aside0 (w'.heap[jo]? = some (.cells #[.int .i64 a0_0, (.slice A0_1 l0_1.length c0_1)] 35 (0, 0))) ∧ Aside0 (Below w.heap.size w w'))
    case atStart => exact ⟨(jg), (0), ue, H', ⟨Nat.le_refl _⟩, ⟨by (with_reducible repeat (first | apply Kd.S_alloc | apply Kd.S_drewN | apply Kd.S_drew)); exact j3.out⟩, ⟨ub j2⟩, ⟨uB1 HB j4.out⟩⟩
    case round =>
     clear H'
     clear j01 jM jN jO jP
     obtain ⟨j5, j0, rfl, HA, HK2, j3, j2, HB⟩ := hrel
     cases gk with
     | zero => exact absurd HA.out (by simp [spec_l8Grid.l2])
     | succ k2 =>
      have H := HA.out; clear HA; simp only [spec_l8Grid.l2] at H; by_cases c23 : j0 < (l0_1.length : Int)
      ·
       rw [if_pos c23] at H; have j0E := dl c23; clear c23; by_cases c24 : 0 ≤ j0
       ·
        rw [if_pos c24] at H; have j1L := de c24; clear c24; by_cases c25 : 0 ≤ ((rd_T61 l0_1 j0).f0)
        ·
         rw [if_pos c25] at H; have j1M := de c25; clear c25; by_cases c26 : ((rd_T61 l0_1 j0).f0) < (j5.length : Int)
         ·
          rw [if_pos c26] at H; have j1N := dl c26; clear c26; by_cases c27 : 0 ≤ ((rd_T61 l0_1 j0).f1)
          ·
           rw [if_pos c27] at H; have j1O := de c27; clear c27; by_cases c28 : ((rd_T61 l0_1 j0).f1) < ((rd_L5 j5 ((rd_T61 l0_1 j0).f0)).length : Int)
           ·
            rw [if_pos c28] at H; have j1P := dl c28; clear c28; have HH_ := Aside0.mk H; clear H; obtain ⟨j0X, j0Y, j0Z, j10⟩ := bc2 j2; have j09 : 0 ≤ (j0 : Int) := ua; have j0a : j0 < (l0_1.length : Int) := ua; obtain ⟨j0F, j1t, ju, jv, jw, jx, jy⟩ := at_T61 j0n.out j0 j09 j0a
            cases j1t
            replace ju := uc HB ju; replace jv := uc HB jv; replace jw := uc HB jw; replace jx := uc HB jx; replace jy := uc HB jy; replace j09 := eq_true j09; replace j0a := eq_true j0a; try go_wp2_with (((with_reducible refine gate_dst (N := 8) rfl ?_); refine be (cs := #[.int .i64 0, .int .i64 0, .int .i64 0, .int .i64 0, .int .i64 0]) (t := 61) ?_; intro j1 hg w30 hbox hb; replace j3 := Aside0.mk (Kd.S_below (by (with_reducible repeat (first | apply Kd.S_alloc | apply Kd.S_drewN | apply Kd.S_drew)); exact j3.out) hb); have j6 := Aside0.mk (hbox); have j1Q := gz w hg (uB1 HB j4.out); have jH := gz w hg (uB1 HB j4.out); replace HB := Aside0.mk (below_step (uB1 HB j4.out) hb); have ji := gl hg j2; have jF := gr hg j2; replace j2 := bb j2 hb; clear hb hbox hg; have j1R := jF.out; have j1S := ji.out; obtain ⟨j11, j12, j13, j14, j15, j16, j17, j18, j19, j1a⟩ := bc5 j6))
            have n0_ : Aside0 (Kd.S (Kd.slice 3 (Kd.int .i64)) 25 (((((w30.setCell ⟨j1, 0, none⟩ (.int .i64 ((rd_T61 l0_1 j0).f0))).setCell ⟨j1, 1, none⟩ (.int .i64 ((rd_T61 l0_1 j0).f1))).setCell ⟨j1, 2, none⟩ (.int .i64 ((rd_T61 l0_1 j0).f2))).setCell ⟨j1, 3, none⟩ (.int .i64 ((rd_T61 l0_1 j0).f3))).setCell ⟨j1, 4, none⟩ (.int .i64 ((rd_T61 l0_1 j0).f4))) w.heap.size (fun _ => True) u3 j5) := ⟨by (with_reducible repeat (first | apply Kd.S_alloc | apply Kd.S_drewN | apply Kd.S_drew)); exact Kd.S_mono (Kd.S_far (p := ⟨j1, 4, none⟩) (Kd.S_far (p := ⟨j1, 3, none⟩) (Kd.S_far (p := ⟨j1, 2, none⟩) (Kd.S_far (p := ⟨j1, 1, none⟩) (Kd.S_far (p := ⟨j1, 0, none⟩) (Kd.S_types j3.out j6.out (by decide)) (fun _ hk => hk.2) (.int .i64 ((rd_T61 l0_1 j0).f0))) (fun _ hk => hk.2) (.int .i64 ((rd_T61 l0_1 j0).f1))) (fun _ hk => hk.2) (.int .i64 ((rd_T61 l0_1 j0).f2))) (fun _ hk => hk.2) (.int .i64 ((rd_T61 l0_1 j0).f3))) (fun _ hk => hk.2) (.int .i64 ((rd_T61 l0_1 j0).f4))) (fun _ hk => trivial)⟩
            have n1_ : Aside0 ((((((w30.setCell ⟨j1, 0, none⟩ (.int .i64 ((rd_T61 l0_1 j0).f0))).setCell ⟨j1, 1, none⟩ (.int .i64 ((rd_T61 l0_1 j0).f1))).setCell ⟨j1, 2, none⟩ (.int .i64 ((rd_T61 l0_1 j0).f2))).setCell ⟨j1, 3, none⟩ (.int .i64 ((rd_T61 l0_1 j0).f3))).setCell ⟨j1, 4, none⟩ (.int .i64 ((rd_T61 l0_1 j0).f4))).heap[jo]? = some (.cells #[.int .i64 a0_0, .slice (some j0F) l0_1.length c0_1] 35 (0, 0))) := ⟨by (with_reducible repeat first | apply zbn | apply zbd | apply zba); refine fa5 ?_ ji; exact ub j2⟩
            have n2_ : Aside0 ((((((w30.setCell ⟨j1, 0, none⟩ (.int .i64 ((rd_T61 l0_1 j0).f0))).setCell ⟨j1, 1, none⟩ (.int .i64 ((rd_T61 l0_1 j0).f1))).setCell ⟨j1, 2, none⟩ (.int .i64 ((rd_T61 l0_1 j0).f2))).setCell ⟨j1, 3, none⟩ (.int .i64 ((rd_T61 l0_1 j0).f3))).setCell ⟨j1, 4, none⟩ (.int .i64 ((rd_T61 l0_1 j0).f4))).heap[j1]? = some (.cells #[.int .i64 ((rd_T61 l0_1 j0).f0), .int .i64 ((rd_T61 l0_1 j0).f1), .int .i64 ((rd_T61 l0_1 j0).f2), .int .i64 ((rd_T61 l0_1 j0).f3), .int .i64 ((rd_T61 l0_1 j0).f4)] 61 (0, 0))) := ⟨by (with_reducible repeat first | apply zbn | apply zbd | apply zba); refine pu5 (.int .i64 0) (.int .i64 0) (.int .i64 0) (.int .i64 0) (.int .i64 0) ?_; exact ub j6⟩
            have n3_ : Aside0 (Below w.heap.size w (((((w30.setCell ⟨j1, 0, none⟩ (.int .i64 ((rd_T61 l0_1 j0).f0))).setCell ⟨j1, 1, none⟩ (.int .i64 ((rd_T61 l0_1 j0).f1))).setCell ⟨j1, 2, none⟩ (.int .i64 ((rd_T61 l0_1 j0).f2))).setCell ⟨j1, 3, none⟩ (.int .i64 ((rd_T61 l0_1 j0).f3))).setCell ⟨j1, 4, none⟩ (.int .i64 ((rd_T61 l0_1 j0).f4)))) := ⟨uB2 HB j4.out jH.out⟩
            (try clear j3); (try clear j2); (try clear j6); (try clear HB); generalize (((((w30.setCell ⟨j1, 0, none⟩ (.int .i64 ((rd_T61 l0_1 j0).f0))).setCell ⟨j1, 1, none⟩ (.int .i64 ((rd_T61 l0_1 j0).f1))).setCell ⟨j1, 2, none⟩ (.int .i64 ((rd_T61 l0_1 j0).f2))).setCell ⟨j1, 3, none⟩ (.int .i64 ((rd_T61 l0_1 j0).f3))).setCell ⟨j1, 4, none⟩ (.int .i64 ((rd_T61 l0_1 j0).f4))) = w33 at n0_ n1_ n2_ n3_ ⊢; have j3 := n0_; have j2 := n1_; have j6 := n2_; have HB := n3_; clear n0_ n1_ n2_ n3_; replace j3 := Aside0.mk (Kd.S_drew j3.out); replace j2 := Aside0.mk (blk_drew j2.out); replace j6 := Aside0.mk (blk_drew j6.out); replace HB := Aside0.mk (below_drew1 HB.out); obtain ⟨j1Y, j1Z, j1u⟩ := Kd.S_slice j3.out; (subst j1u); have jQ : 0 ≤ (((rd_T61 l0_1 j0).f0) : Int) := ua; have jR : ((rd_T61 l0_1 j0).f0) < (j5.length : Int) := ua; obtain ⟨jI, j1v, j0b, j1w, jc, jz, jA⟩ := at_L5 (Kd.S_reads' j3.out).2.2 ((rd_T61 l0_1 j0).f0) jQ jR
            cases j1w
            obtain ⟨j1T, j0c, j0d, jJ⟩ := Kd.S_get j3.out [] ((rd_T61 l0_1 j0).f0) jQ (by first | exact jR | exact ua | (have e_ := (Kd.S_reads' j3.out).1; omega)); obtain ⟨j1b, rfl, jk⟩ := j0d; have j8 := jJ 0 _ rfl; rw [Nat.add_zero, show ((Kd.slice 3 (Kd.int .i64))).sz = 1 from rfl, Nat.mul_one] at j8; replace j8 := Option.some.inj (j8.symm.trans jc); rw [j8] at jk; have jd := Aside0.mk (show Kd.R (Kd.int .i64) 3 _ _ _ _ (rd_L5 j5 ((rd_T61 l0_1 j0).f0)) from jk); clear j8 jk; have jS := Aside0.mk jc; clear jJ j0c; have j9 := Aside0.mk jA; have j1c := Aside0.mk jz; clear jA jz; replace jQ := eq_true jQ; replace jR := eq_true jR; have j0e : 0 ≤ (((rd_T61 l0_1 j0).f1) : Int) := ua; have j0f : ((rd_T61 l0_1 j0).f1) < ((rd_L5 j5 ((rd_T61 l0_1 j0).f0)).length : Int) := ua; obtain ⟨jY, j1x, jB⟩ := Kd.at_int (by repeat ((with_reducible exact j9.out))) ((rd_T61 l0_1 j0).f1) j0e j0f
            cases j1x
            replace j0e := eq_true j0e; replace j0f := eq_true j0f; refine start_ (n := 12) (S := fun w' => w'.cell? ⟨j1, 0, none⟩ = some (.int .i64 ((rd_T61 l0_1 j0).f0)) ∧ w'.cell? ⟨j1, 1, none⟩ = some (.int .i64 ((rd_T61 l0_1 j0).f1)) ∧ w'.cell? ⟨j1, 2, none⟩ = some (.int .i64 ((rd_T61 l0_1 j0).f2)) ∧ w'.cell? ⟨j1, 3, none⟩ = some (.int .i64 ((rd_T61 l0_1 j0).f3)) ∧ w'.cell? ⟨j1, 4, none⟩ = some (.int .i64 ((rd_T61 l0_1 j0).f4)) ∧ w'.cell? (jI.add (((rd_T61 l0_1 j0).f0)).toNat) = some (.slice (some jY) (rd_L5 j5 ((rd_T61 l0_1 j0).f0)).length j0b) ∧ w'.cell? (jY.add (((rd_T61 l0_1 j0).f1)).toNat) = some (.int .i64 (rd (rd_L5 j5 ((rd_T61 l0_1 j0).f0)) ((rd_T61 l0_1 j0).f1)))) (ds := []) (zt 12 0) (by kernel_rfl) rfl (by kernel_rfl) (b5x j6 ⟨jc, jB⟩) (fun hHeld => ?_); refine with_tabW spec_l8Grid.tab15 spec_l8Grid.bits15 (fun HT_ HW_ => ?_); generalize w33.drew = w34 at j3 j2 j6 HB jd j9 jS jc jB hHeld ⊢; refine qz HT_ 0 ?_; refine qz HT_ 2 ?_; refine qz HT_ 3 ?_; refine qz HT_ 7 ?_; refine qt HT_ HW_ hHeld 1 ?_; refine qt HT_ HW_ hHeld 4 ?_; refine qz HT_ 5 ?_; refine qt HT_ HW_ hHeld 6 ?_; refine qt HT_ HW_ hHeld 8 ?_; refine qz HT_ 9 ?_; refine qt HT_ HW_ hHeld 10 ?_; refine qz HT_ 11 ?_; refine done_ (done_of HT_.out (by kernel_rfl)) ?_; have H := HH_.out; clear HH_; by_cases c36 : ((rd_T61 l0_1 j0).f2) < (rd (rd_L5 j5 ((rd_T61 l0_1 j0).f0)) ((rd_T61 l0_1 j0).f1))
            ·
             rw [if_pos c36] at H; have jK := dl c36; try simp only [jK]
             clear c36; obtain ⟨j0g, js⟩ : ∃ y_ : List Int, y_ = ((rd_L5 j5 ((rd_T61 l0_1 j0).f0)).set (((rd_T61 l0_1 j0).f1) : Int).toNat ((rd_T61 l0_1 j0).f2)) := ⟨_, rfl⟩
             replace H : (spec_l8Grid.l2 k2 (j5.set (((rd_T61 l0_1 j0).f0) : Int).toNat j0g) (wrap64 (j0 + 1)) a0_0 l0_1) = some r := by first | (rw [js]; with_reducible exact H) | (have H2_ := (Option.bind_some _ _).symm.trans H; rw [js]; with_reducible exact H2_) | (have H2_ := (Option.bind_some _ _).symm.trans H; with_reducible exact H2_) | with_reducible exact H | (rw [js]; exact H) | exact H
             have j0G := Aside0.mk js; clear js; obtain ⟨j0H, jt⟩ : ∃ y_ : List (List Int), y_ = (j5.set (((rd_T61 l0_1 j0).f0) : Int).toNat j0g) := ⟨_, rfl⟩
             replace H : (spec_l8Grid.l2 k2 j0H (wrap64 (j0 + 1)) a0_0 l0_1) = some r := by first | (rw [jt]; with_reducible exact H) | (have H2_ := (Option.bind_some _ _).symm.trans H; rw [jt]; with_reducible exact H2_) | (have H2_ := (Option.bind_some _ _).symm.trans H; with_reducible exact H2_) | with_reducible exact H | (rw [jt]; exact H) | exact H
             have j0I := Aside0.mk jt; clear jt; have H' := Aside0.mk H; clear H; try go_wp2
             replace j3 := Aside0.mk (Kd.S_drew j3.out); replace jd := Aside0.mk (Kd.R_drew jd.out); replace j2 := Aside0.mk (blk_drew j2.out); replace j6 := Aside0.mk (blk_drew j6.out); replace j9 := Aside0.mk (Kd.C_drew j9.out); replace HB := Aside0.mk (below_drew1 HB.out); have jT : 0 ≤ (((rd_T61 l0_1 j0).f0) : Int) := ua; have jU : ((rd_T61 l0_1 j0).f0) < (j5.length : Int) := ua; obtain ⟨j0J, j1y, j0h, j1z, je, jC, jD⟩ := at_L5 (Kd.S_reads' j3.out).2.2 ((rd_T61 l0_1 j0).f0) jT jU; obtain rfl : jI = j0J := (by injection j1z)
             obtain ⟨j1U, j0i, j0j, jL⟩ := Kd.S_get j3.out [] ((rd_T61 l0_1 j0).f0) jT (by first | exact jU | exact ua | (have e_ := (Kd.S_reads' j3.out).1; omega)); obtain ⟨j1d, rfl, jl⟩ := j0j; have ja := jL 0 _ rfl; rw [Nat.add_zero, show ((Kd.slice 3 (Kd.int .i64))).sz = 1 from rfl, Nat.mul_one] at ja; replace ja := Option.some.inj (ja.symm.trans je); rw [ja] at jl; have jf := Aside0.mk (show Kd.R (Kd.int .i64) 3 _ _ _ _ (rd_L5 j5 ((rd_T61 l0_1 j0).f0)) from jl); clear ja jl; have jE := Aside0.mk je; clear jL j0i; have jV := Aside0.mk jD; have j1e := Aside0.mk jC; clear jD jC; replace jT := eq_true jT; replace jU := eq_true jU; have p37 : 0 ≤ (((rd_T61 l0_1 j0).f1) : Int) := ua; have q37 : (((rd_T61 l0_1 j0).f1) : Int) < (((rd_L5 j5 ((rd_T61 l0_1 j0).f0)).length : Int) : Int) := ua; obtain ⟨j1A, j20, j1B, j0K, j1C, j21, j0L⟩ := Kd.R_form jf.out (by omega); (cases j1B); have j1D := Aside0.mk j0K; have j1E := Aside0.mk j0L; clear j0K j1C j0L; obtain ⟨j0k, j0l⟩ := Kd.R_celln 0 jf.out (((rd_T61 l0_1 j0).f1) : Int) p37 q37; replace p37 := eq_true p37; replace q37 := eq_true q37; have hq37 : (((rd_T61 l0_1 j0).f0) : Int) < (j5.length : Int) := (by have h_ : (((rd_T61 l0_1 j0).f0) : Int) < ((j5.length : Int) : Int) := ua; first | exact h_ | (have e_ := (Kd.S_reads' j3.out).1; omega) | simpa only [List.length_set, List.length_set] using h_)
             obtain ⟨j1V, j22, j0M, j1F, jZ, j0N, j00⟩ := Kd.S_borrow j3.out [] (((rd_T61 l0_1 j0).f0) : Int) (ua) hq37; obtain ⟨j1G, rfl, jm⟩ := j1F; have jW := jZ 0 _ rfl; rw [Nat.add_zero, show ((Kd.slice 3 (Kd.int .i64))).sz = 1 from rfl, Nat.mul_one] at jW; replace jW := Option.some.inj (jW.symm.trans jE.out); subst jW; clear jZ j0M; replace jm := (show Kd.R (Kd.int .i64) 3 _ _ _ _ (rd_L5 j5 ((rd_T61 l0_1 j0).f0)) from jm)
             have jX := Kd.R_putg jm (((rd_T61 l0_1 j0).f1) : Int) ((rd_T61 l0_1 j0).f2); rw [← j0G.out] at jX; have j0m := j00 jX.2 (fun k_ e_ => by injection e_ with e_; subst e_; exact jm.1 _ rfl) (x' := j0g) (Kd.M_row jX.1); rw [← j0I.out] at j0m; have j0O := Aside0.mk j0m; clear jX j0m j00 j0N; refine start_ (n := 11) (S := fun w' => w'.cell? ⟨j1, 0, none⟩ = some (.int .i64 ((rd_T61 l0_1 j0).f0)) ∧ w'.cell? ⟨j1, 1, none⟩ = some (.int .i64 ((rd_T61 l0_1 j0).f1)) ∧ w'.cell? ⟨j1, 2, none⟩ = some (.int .i64 ((rd_T61 l0_1 j0).f2)) ∧ w'.cell? ⟨j1, 3, none⟩ = some (.int .i64 ((rd_T61 l0_1 j0).f3)) ∧ w'.cell? ⟨j1, 4, none⟩ = some (.int .i64 ((rd_T61 l0_1 j0).f4)) ∧ w'.cell? (jI.add (((rd_T61 l0_1 j0).f0)).toNat) = some (.slice (some ⟨j1A, 0, none⟩) (rd_L5 j5 ((rd_T61 l0_1 j0).f0)).length j0h)) (ds := [10]) (zt 11 0) (by kernel_rfl) rfl (by kernel_rfl) (b5x j6 je) (fun hHeld => ?_); refine with_tabW spec_l8Grid.tab16 spec_l8Grid.bits16 (fun HT_ HW_ => ?_); generalize w34.drew = w36 at j3 jd j2 j6 j9 HB j1E jf j0O jV jE j0l je j0k hHeld ⊢; refine qz HT_ 0 ?_; refine qz HT_ 1 ?_; refine qz HT_ 5 ?_; refine qz HT_ 7 ?_; refine qt HT_ HW_ hHeld 2 ?_; refine qz HT_ 3 ?_; refine qt HT_ HW_ hHeld 4 ?_; refine qt HT_ HW_ hHeld 6 ?_; refine qt HT_ HW_ hHeld 8 ?_; refine qz HT_ 9 ?_; refine last_ (i := 10) (N := none) (zt 11 2047) rfl rfl (one_of HT_.out (by kernel_rfl)) (by decide) (fun K hK => ?_); refine skip_ (w1 := ?_) (by rfl) rfl ?_ ?_; rotate_left
             ·
              go_simp; rfl
             refine hK.out _ _ ?_; clear hK K; refine done_ (done_of HT_.out (by kernel_rfl)) ?_; try go_wp2
             go_roundg k2
             case measure => have := HK1.out; have := HK2.out; omega
             case rel => exact ⟨(j0H), (wrap64 (j0 + 1)), ue, H', ⟨by have := HK1.out; have := HK2.out; omega⟩, ⟨by (with_reducible repeat (first | apply Kd.S_alloc | apply Kd.S_drewN | apply Kd.S_drew)); exact j0O.out⟩, ⟨by (with_reducible repeat first | apply zbn | apply zbd | apply zba); refine blk_far ?_ (by have h_ := Kd.R_ne jf.out j2.out (by decide); intro e_; exact h_ (by rw [e_]; rfl)) _; exact ub j2⟩, ⟨uB3 HB j1D.out j4.out jH.out⟩⟩
            ·
             rw [if_neg c36] at H; have jK := DL c36; try simp only [jK]
             clear c36; have H' := Aside0.mk H; clear H; go_wp2; go_roundg k2
             case measure => have := HK1.out; have := HK2.out; omega
             case rel => exact ⟨(j5), (wrap64 (j0 + 1)), ue, H', ⟨by have := HK1.out; have := HK2.out; omega⟩, ⟨by (with_reducible repeat (first | apply Kd.S_alloc | apply Kd.S_drewN | apply Kd.S_drew)); exact j3.out⟩, ⟨ub j2⟩, ⟨uB2 HB j4.out jH.out⟩⟩
           ·
            rw [if_neg c28] at H; exact absurd H (by simp)
          ·
           rw [if_neg c27] at H; exact absurd H (by simp)
         ·
          rw [if_neg c26] at H; exact absurd H (by simp)
        ·
         rw [if_neg c25] at H; exact absurd H (by simp)
       ·
        rw [if_neg c24] at H; exact absurd H (by simp)
      ·
       rw [if_neg c23] at H; have j0E := DL c23; clear c23; obtain rfl := Option.some.inj H; obtain ⟨j1f, j1g, j1h, j1i⟩ := bc2 j2; go_wp2; go_ret; exact ⟨_, by first | rfl | (simp [errW_none, errW_some] <;> rfl) | (simp [*, errW_none, errW_some] <;> rfl), by (with_reducible repeat (first | apply Kd.S_alloc | apply Kd.S_drewN | apply Kd.S_drew)); exact j3.out, uB1 HB j4.out⟩

end Go.Proofs.Ytdlaaccnaokdnaa.P
