-- printed for this claim by a program
import Derived.Test.YtblpdfgplifccaaPx0
import Derived.Test.YtblpdfgplifccaaHUp
import Derived.Test.YtblpdfgplifccaaHLib
namespace Go.Proofs.Ytblpdfgplifccaa.P
open Go.RowKit Go.Proofs.YtblpdfgplifccaaV.PrintWords Go.Proofs.YtblpdfgplifccaaV.PrintLast
set_option linter.unusedVariables false
set_option linter.unusedSimpArgs false

/-! ### impl_closed: function 94 -/
mutual
def impl_closed.l0 : Nat → List (List Int) → List (List Int) → Int → Int → Option ((List (List Int)))
 | 0, _, _, _, _ => none
 | k + 1, x3, x12, x13, x14 => if x14 < x13 then (if 0 ≤ x14 then (if x14 < (x12.length : Int) then ((slices_Clone_int.f (rd_L5 x12 x14)).bind fun t105 => (if x14 < (t105.length : Int) then (if x3.length < 5864062014805 then (impl_closed.l0 k (x3 ++ [(t105.set (x14 : Int).toNat 0)]) x12 x13 (wrap64 (x14 + 1))) else (none)) else (none))) else (none)) else (none)) else (impl_closed.l1 k x3 (x3.length : Int) 0)
def impl_closed.l1 : Nat → List (List Int) → Int → Int → Option ((List (List Int)))
 | 0, _, _, _ => none
 | k + 1, x3, x30, x31 => if x31 < x30 then (impl_closed.l2 k x3 x31 x30 x31 (x3.length : Int) 0) else (some x3)
def impl_closed.l2 : Nat → List (List Int) → Int → Int → Int → Int → Int → Option ((List (List Int)))
 | 0, _, _, _, _, _, _ => none
 | k + 1, x3, x6, x30, x31, x35, x36 => if x36 < x35 then (impl_closed.l3 k x3 x6 x36 x30 x31 x35 x36 (x3.length : Int) 0) else (impl_closed.l1 k x3 x30 (wrap64 (x31 + 1)))
def impl_closed.l3 : Nat → List (List Int) → Int → Int → Int → Int → Int → Int → Int → Int → Option ((List (List Int)))
 | 0, _, _, _, _, _, _, _, _, _ => none
 | k + 1, x3, x6, x7, x30, x31, x35, x36, x40, x41 => if x41 < x40 then (if 0 ≤ x7 then (if x7 < (x3.length : Int) then (if 0 ≤ x6 then (if x6 < ((rd_L5 x3 x7).length : Int) then (if (rd (rd_L5 x3 x7) x6) = 99999 then (impl_closed.l3 k x3 x6 x7 x30 x31 x35 x36 x40 (wrap64 (x41 + 1))) else (if x6 < (x3.length : Int) then (if 0 ≤ x41 then (if x41 < ((rd_L5 x3 x6).length : Int) then (if (rd (rd_L5 x3 x6) x41) = 99999 then (impl_closed.l3 k x3 x6 x7 x30 x31 x35 x36 x40 (wrap64 (x41 + 1))) else (if x41 < ((rd_L5 x3 x7).length : Int) then (impl_closed.l3 k (x3.set (x7 : Int).toNat ((rd_L5 x3 x7).set (x41 : Int).toNat (mn (rd (rd_L5 x3 x7) x41) (wrap64 ((rd (rd_L5 x3 x7) x6) + (rd (rd_L5 x3 x6) x41)))))) x6 x7 x30 x31 x35 x36 x40 (wrap64 (x41 + 1))) else (none))) else (none)) else (none)) else (none))) else (none)) else (none)) else (none)) else (none)) else (impl_closed.l2 k x3 x6 x30 x31 x35 (wrap64 (x36 + 1)))
end
def impl_closed.f (k : Nat) (l0 : List (List Int)) : Option ((List (List Int))) := if 0 ≤ (l0.length : Int) then (if ((l0.length : Int) : Int).toNat ≤ 11728124029610 then (impl_closed.l0 k (([] : List (List Int))) l0 (l0.length : Int) 0) else (none)) else (none)
def impl_closed.T19 : Bool × List (List Nat × List Nat) := (true, [([], []), ([], []), ([0, 1], [0, 1]), ([2], [2]), ([], []), ([], []), ([], []), ([5, 6], [5, 6]), ([7], [7]), ([], []), ([8, 9], [8, 9]), ([10], [10]), ([], []), ([], []), ([12, 13], [12, 13]), ([14], [14]), ([], []), ([15, 16], [15, 16]), ([17], [17]), ([], []), ([], []), ([19, 20], [19, 20]), ([21], [21]), ([], []), ([22, 23], [22, 23]), ([24], [24]), ([18, 25], [18, 25]), ([11, 26], [11, 26]), ([3, 4, 0, 1, 2, 3, 4, 5, 6, 7, 8, 9, 10, 11, 12, 13, 14, 15, 16, 17, 18, 19, 20, 21, 22, 23, 24, 25, 26, 27], [3, 4]), ([28, 27, 0, 1, 2, 3, 4, 5, 6, 7, 8, 9, 10, 11, 12, 13, 14, 15, 16, 17, 18, 19, 20, 21, 22, 23, 24, 25, 26, 27], [27, 28])])
def impl_closed.B19 : List Nat := [0, 0, 3, 7, 0, 0, 0, 96, 224, 0, 992, 2016, 0, 0, 12288, 28672, 0, 126976, 258048, 0, 0, 1572864, 3670016, 0, 16252928, 33030144, 67104768, 134217696, 268435455, 536870911]
theorem impl_closed.tab19 : rtab .any (opsOf Try.f94 19) = impl_closed.T19 := by kernel_rfl
theorem impl_closed.bits19 : waitsOk impl_closed.T19.2 impl_closed.B19 = true := by kernel_rfl
set_option maxHeartbeats 8000000 in
set_option maxRecDepth 100000 in
theorem impl_closed.calls (k : Nat) (A0 : Option Addr) (c0 : Nat) (l0 : List (List Int)) (r : List (List Int)) (w : World) (hr0 : Kd.C (Kd.slice 3 (Kd.int .i64)) w A0 l0.length l0) (hc0 : l0.length ≤ c0) (h : impl_closed.f k l0 = some r) :
  Calls Try.prog 94 #[.slice A0 l0.length c0] w fun e w' => ∃ v0_ : Value, e = .returned (v0_) ∧ Kd.S (Kd.slice 3 (Kd.int .i64)) 26 w' w.heap.size (fun _ => True) v0_ r ∧ Below w.heap.size w w' := by
 have HR0 := Aside0.mk hr0
 have HC0 := Aside0.mk hc0
 clear hr0 hc0
 have HB := Aside0.mk (Below.refl w.heap.size w)
 have H : (if 0 ≤ (l0.length : Int) then (if ((l0.length : Int) : Int).toNat ≤ 11728124029610 then (impl_closed.l0 k (([] : List (List Int))) l0 (l0.length : Int) 0) else (none)) else (none)) = some r := h
 clear h
 by_cases c2 : 0 ≤ (l0.length : Int)
 ·
  rw [if_pos c2] at H; have j0L := eq_true c2; have j0M := de c2; clear c2; by_cases c3 : ((l0.length : Int) : Int).toNat ≤ 11728124029610
  ·
   rw [if_pos c3] at H; have j0N := eq_true c3; have j0O := de c3; clear c3; obtain ⟨j1O, j00⟩ : ∃ y_ : List (List Int), y_ = (([] : List (List Int))) := ⟨_, rfl⟩
   replace H : (impl_closed.l0 k j1O l0 (l0.length : Int) 0) = some r := by first | (rw [j00]; with_reducible exact H) | (have H2_ := (Option.bind_some _ _).symm.trans H; rw [j00]; with_reducible exact H2_) | (have H2_ := (Option.bind_some _ _).symm.trans H; with_reducible exact H2_) | with_reducible exact H | (rw [j00]; exact H) | exact H
   have j1e := Aside0.mk j00; clear j00; have H' := Aside0.mk H; clear H; go_enter Try.func94, Try.ntmps94; go_wp2_with (first | ((with_reducible refine gate_dst (N := 11) rfl ?_); refine Kd.S_room (Kd.slice 3 (Kd.int .i64)) _ 26 rfl (N := 11) rfl 53 _ _ rfl (l0.length : Int) rfl rfl Try.underlying53 (.slice none 0 0) 24 info26 rfl (by omega) (ok := fun _ => True) trivial (ua) (Nat.le_trans (Nat.mul_le_mul_right _ (ua : (l0.length : Int).toNat ≤ 11728124029610)) (by omega)) (Below.refl _ _) (Nat.le_refl _) ?_; intro v102 w4 ho5 hb hg_ hnew_; clear hg_ hnew_; (first | rw [← j1e.out] at ho5 | (simp only [Int.reduceToNat] at ho5; rw [← j1e.out] at ho5)); have j1P := Aside0.mk (Kd.S_lower ho5 (below_size (uB0 HB))); replace HB := Aside0.mk (below_step (uB0 HB) hb); clear hb ho5)); go_loopg [3, 14] k (fun kq v3 v14 w' => ∃ (jh : List (List Int)) (j6 : Int), v14 = .int .i64 j6 ∧ Aside0 (impl_closed.l0 kq jh l0 (l0.length : Int) j6 = some r) ∧ Aside0 (kq ≤ k) ∧ Aside0 (Kd.S (Kd.slice 3 (Kd.int .i64)) 26 w' w.heap.size (fun _ => True) v3 jh) ∧ Aside0 (Below w.heap.size w w'))
   case atStart => exact ⟨(j1O), (0), ue, H', ⟨Nat.le_refl _⟩, ⟨by (with_reducible repeat (first | apply Kd.S_alloc | apply Kd.S_drewN | apply Kd.S_drew)); exact j1P.out⟩, ⟨uB0 HB⟩⟩
   case round =>
    clear H'; try clear c2
    (try clear j0L); (try clear j0M); (try clear p2); (try clear c3); (try clear j0N); (try clear j0O)
    obtain ⟨jh, j6, rfl, HA, HK1, j4, HB⟩ := hrel
    cases gk with
    | zero => exact absurd HA.out (by simp [impl_closed.l0])
    | succ k1 =>
     have H := HA.out; clear HA; simp only [impl_closed.l0] at H; by_cases c6 : j6 < (l0.length : Int)
     ·
      rw [if_pos c6] at H; have j0P := dl c6; clear c6; by_cases c7 : 0 ≤ j6
      ·
       rw [if_pos c7] at H; have j1k := de c7; clear c7; by_cases c8 : j6 < (l0.length : Int)
       ·
        rw [if_pos c8] at H; have j1l := dl c8; clear c8; replace H := Option.bind_eq_some_iff.mp H; obtain ⟨jE, A90, H⟩ := H; replace H : (if j6 < (jE.length : Int) then (if jh.length < 5864062014805 then (impl_closed.l0 k1 (jh ++ [(jE.set (j6 : Int).toNat 0)]) l0 (l0.length : Int) (wrap64 (j6 + 1))) else (none)) else (none)) = some r := H; have A9 := Aside0.mk A90; clear A90; by_cases c10 : j6 < (jE.length : Int)
        ·
         rw [if_pos c10] at H; have j0u := dl c10; clear c10; obtain ⟨j0Q, j01⟩ : ∃ y_ : List Int, y_ = (jE.set (j6 : Int).toNat 0) := ⟨_, rfl⟩
         replace H : (if jh.length < 5864062014805 then (impl_closed.l0 k1 (jh ++ [j0Q]) l0 (l0.length : Int) (wrap64 (j6 + 1))) else (none)) = some r := by first | (rw [j01]; with_reducible exact H) | (have H2_ := (Option.bind_some _ _).symm.trans H; rw [j01]; with_reducible exact H2_) | (have H2_ := (Option.bind_some _ _).symm.trans H; with_reducible exact H2_) | with_reducible exact H | (rw [j01]; exact H) | exact H
         have j1Q := Aside0.mk j01; clear j01; by_cases c12 : jh.length < 5864062014805
         ·
          rw [if_pos c12] at H; have j1R := Aside0.mk c12; clear c12; obtain ⟨j1S, j02⟩ : ∃ y_ : List (List Int), y_ = (jh ++ [j0Q]) := ⟨_, rfl⟩
          replace H : (impl_closed.l0 k1 j1S l0 (l0.length : Int) (wrap64 (j6 + 1))) = some r := by first | (rw [j02]; with_reducible exact H) | (have H2_ := (Option.bind_some _ _).symm.trans H; rw [j02]; with_reducible exact H2_) | (have H2_ := (Option.bind_some _ _).symm.trans H; with_reducible exact H2_) | with_reducible exact H | (rw [j02]; exact H) | exact H
          have j1T := Aside0.mk j02; clear j02; have H' := Aside0.mk H; clear H; have j0s : 0 ≤ (j6 : Int) := ua; have j0t : j6 < (l0.length : Int) := ua; obtain ⟨j2P, j1m, j1n, j2s, jm, j0c, j0d⟩ := at_L5 HR0.out j6 j0s j0t
          cases j2s
          replace jm := uc HB jm; have j0R := Aside0.mk j0d; have j0S := Aside0.mk j0c; clear j0d j0c; replace j0s := eq_true j0s; replace j0t := eq_true j0t; go_wp2_with (first | ((with_reducible refine gate_callee (f := 117) rfl ?_); refine goesL_ (some 20) rfl rfl Try.func117 (by kernel_rfl) rfl #[.slice j1m (rd_L5 l0 j6).length j1n] rfl ul ?_; (with_reducible refine (slices_Clone_int.calls _ _ (rd_L5 l0 j6) jE _ ?side1 ?side2 A9.out).mono ?_); (case side1 => exact uC j0R HB); (case side2 => exact j0S.out); rintro e w13 ⟨v106, rfl, ho0, hb⟩; refine ⟨_, rfl, ?_⟩; replace j4 := Aside0.mk (Kd.S_elder' (by (with_reducible repeat (first | apply Kd.S_alloc | apply Kd.S_drewN | apply Kd.S_drew)); exact j4.out) (Kd.R_base ho0) hb); have jA := Aside0.mk (Kd.R_lower ho0 (below_size (uB0 HB))); replace HB := Aside0.mk (below_step (uB0 HB) hb); (try clear hb); (try clear hb2); (try clear hk); (try clear hi); (try clear ho0); have p11 : 0 ≤ (j6 : Int) := ua; have q11 : (j6 : Int) < ((jE.length : Int) : Int) := ua; obtain ⟨j05, j0v, j1U, j1V, j2t, j31, j1W⟩ := Kd.R_form jA.out (by omega); (first | cases j1U | (injection j1U with ea_ en_ ec_; (first | subst ea_ | (injection ea_ with ea_; subst ea_)); subst ec_; clear en_)); have j2u := Aside0.mk j1V; have j32 := Aside0.mk j1W; clear j1V j2t j1W; obtain ⟨j06, j2v⟩ := Kd.R_celln 0 jA.out (j6 : Int) p11 q11; replace p11 := eq_true p11; replace q11 := eq_true q11; obtain ⟨j2Q, hz14_⟩ := Kd.R_celln 0 jA.out (j6 : Int) (ua) (ua); have j1o := Kd.R_putg jA.out (j6 : Int) 0) | ((with_reducible refine gate_store (t := 3) (p := 23) rfl ?_); refine store_event (t := 3) (p := 23) (v := ?vo_w15) (w1 := (w13.setCell ⟨j05, (j6 : Int).toNat, none⟩ (.int .i64 0))) ?hg ?ho ?hn ?hr ?_; (case ho => rfl); (case hg => rfl); (case hn => rfl); (case hr => first | (go_simp; done) | (go_simp; rfl)); intro w15 hw; have hg : w13.grownBy w15 (some j05) := (by rw [hw]; exact j1o.2); have hp_ : Kd.R (Kd.int .i64) 3 w15 w.heap.size (fun _ => True) (.slice (some ⟨j05, 0, none⟩) jE.length j0v) j0Q := (by rw [hw, j1Q.out]; exact j1o.1); clear j1o; replace j4 := Aside0.mk (Kd.S_after (v := (.slice (some ⟨j05, 0, none⟩) jE.length j0v)) (v1 := (.slice (some ⟨j05, 0, none⟩) jE.length j0v)) (ok := (fun _ => True)) (by (with_reducible repeat (first | apply Kd.S_alloc | apply Kd.S_drewN | apply Kd.S_drew)); exact j4.out) hg (.inl rfl)); replace jA := Aside0.mk (hp_); replace HB := Aside0.mk ((by rw [hw]; exact below_set (HB.out) j2u.out : Below w.heap.size w w15)); clear hg hw hp_) | ((with_reducible refine gate_builtin (b := .append) (xs := #[.tmp 24, .tmp 26]) rfl ?_); at_builtin; refine Kd.S_append (Kd.slice 3 (Kd.int .i64)) (w0 := w) w.heap.size rfl (.tmp 24) (.tmp 26) 53 26 (.slice none 0 0) 24 rfl Try.underlying53 info26 rfl (by decide) (by omega) u3 jh j0Q [.slice (some ⟨j05, 0, none⟩) jE.length j0v] (fun _ => True) (fun k_ => some k_ = (.slice (some ⟨j05, 0, none⟩) jE.length j0v : Value).ownBlock) rfl rfl ?aP (fun k_ hk_ => ((Kd.R_mono (ok' := fun k_ => ((fun _ => True)) k_ ∧ some k_ ≠ (u3 : Value).ownBlock) (Kd.R_apart' (jA.out) (Kd.S_typed j4.out) (by decide)) (fun k_ hk => ⟨trivial, hk.2⟩))).1 k_ hk_.symm) ?aF ?aO ?aB ?aS ?aL ?_; (case aP => exact Kd.M_row (Kd.R_mono (Kd.R_tight rfl (Kd.R_mono (ok' := fun k_ => ((fun _ => True)) k_ ∧ some k_ ≠ (u3 : Value).ownBlock) (Kd.R_apart' (jA.out) (Kd.S_typed j4.out) (by decide)) (fun k_ hk => ⟨trivial, hk.2⟩))) (fun _ h_ => h_))); (case aB => exact (uB0 HB)); (case aF => exact (fun _ _ => trivial)); (case aO => exact (by (with_reducible repeat (first | apply Kd.S_alloc | apply Kd.S_drewN | apply Kd.S_drew)); exact Kd.S_mono j4.out (fun k_ hk => ⟨trivial, fun e_ => hk.2 e_⟩))); (case aS => exact (below_size (uB0 HB))); (case aL => have := j1R.out; omega); intro v110 w16 ho hb hg hat; rw [← j1T.out] at ho; replace HB := Aside0.mk (hb); have j1X := Aside0.mk (ho); clear j4; clear jA; clear ho hb hg hat)); go_roundg k1
          case measure => have := HK1.out; omega
          case rel => exact ⟨(j1S), (wrap64 (j6 + 1)), ue, H', ⟨by have := HK1.out; omega⟩, ⟨by (with_reducible repeat (first | apply Kd.S_alloc | apply Kd.S_drewN | apply Kd.S_drew)); exact j1X.out⟩, ⟨uB0 HB⟩⟩
         ·
          rw [if_neg c12] at H; exact absurd H (by simp)
        ·
         rw [if_neg c10] at H; exact absurd H (by simp)
       ·
        rw [if_neg c8] at H; exact absurd H (by simp)
      ·
       rw [if_neg c7] at H; exact absurd H (by simp)
     ·
      rw [if_neg c6] at H; have j0P := DL c6; clear c6; have H' := Aside0.mk H; clear H; obtain ⟨j1p, j1q, j2w⟩ := Kd.S_slice j4.out; subst j2w; go_wp2; go_loopg [31] k1 (fun kq v31 w' => ∃ (jF : List (List Int)) (j1 : Int), v31 = .int .i64 j1 ∧ Aside0 (impl_closed.l1 kq jF (jh.length : Int) j1 = some r) ∧ Aside0 (kq ≤ k1) ∧ Aside0 (Kd.S (Kd.slice 3 (Kd.int .i64)) 26 w' w.heap.size (fun _ => True) (.slice j1p jh.length j1q) jF) ∧ Aside0 (Below w.heap.size w w'))
      case atStart => exact ⟨(jh), (0), ue, H', ⟨Nat.le_refl _⟩, ⟨by (with_reducible repeat (first | apply Kd.S_alloc | apply Kd.S_drewN | apply Kd.S_drew)); exact j4.out⟩, ⟨uB0 HB⟩⟩
      case round =>
       clear H'; try clear c1
       (try clear p1); (try clear q1); (try clear hx1); (try clear hf1); (try clear c2); (try clear j0L); (try clear j0M); (try clear p2); (try clear c3); (try clear j0N); (try clear j0O); (try clear c6); (try clear j0P); (try clear p6); (try clear c7); (try clear j1k); (try clear c8); (try clear j1l); (try clear c9); (try clear c10); (try clear j0u); (try clear p10); (try clear q10); (try clear j1Y); (try clear c11); (try clear p11); (try clear q11); (try clear j1Z); (try clear j20); (try clear c12); (try clear jm); (try clear j06); (try clear j0s); (try clear p11); (try clear p2); (try clear j0t); (try clear q11)
       obtain ⟨jF, j1, rfl, HA, HK2, j4, HB⟩ := hrel; have j7 := (Kd.S_reads' j4.out).1; rw [j7] at j4; (try simp only [j7])
       cases gk with
       | zero => exact absurd HA.out (by simp [impl_closed.l1])
       | succ k2 =>
        have H := HA.out; clear HA; simp only [impl_closed.l1] at H; by_cases c18 : j1 < (jh.length : Int)
        ·
         rw [if_pos c18] at H; have jn := dl c18; clear c18; (try simp only [j7] at jn); (try simp only [j8] at jn); (try simp only [j9] at jn); have H' := Aside0.mk H; clear H; go_wp2; go_loopg [36] k2 (fun kq v36 w' => ∃ (jG : List (List Int)) (j0 : Int), v36 = .int .i64 j0 ∧ Aside0 (impl_closed.l2 kq jG j1 (jh.length : Int) j1 (jF.length : Int) j0 = some r) ∧ Aside0 (kq ≤ k2) ∧ Aside0 (Kd.S (Kd.slice 3 (Kd.int .i64)) 26 w' w.heap.size (fun _ => True) (.slice j1p jF.length j1q) jG) ∧ Aside0 (Below w.heap.size w w'))
         case atStart => exact ⟨(jF), (0), ue, H', ⟨Nat.le_refl _⟩, ⟨by (try simp only [j7]); (with_reducible repeat (first | apply Kd.S_alloc | apply Kd.S_drewN | apply Kd.S_drew)); exact j4.out⟩, ⟨uB0 HB⟩⟩
         case round =>
          clear H'; try clear c1
          (try clear p1); (try clear q1); (try clear hx1); (try clear hf1); (try clear c2); (try clear j0L); (try clear j0M); (try clear p2); (try clear c3); (try clear j0N); (try clear j0O); (try clear c6); (try clear j0P); (try clear p6); (try clear c7); (try clear j1k); (try clear c8); (try clear j1l); (try clear c9); (try clear c10); (try clear j0u); (try clear p10); (try clear q10); (try clear j1Y); (try clear c11); (try clear p11); (try clear q11); (try clear j1Z); (try clear j20); (try clear c12); (try clear c18); (try clear jn); (try clear jm); (try clear j06); (try clear p1); (try clear p10); (try clear j0s); (try clear p11); (try clear p2); (try clear p6); (try clear q1); (try clear q10); (try clear j0t); (try clear q11)
          obtain ⟨jG, j0, rfl, HA, HK3, j4, HB⟩ := hrel; have j8 := (Kd.S_reads' j4.out).1; rw [j8] at j4; (try simp only [j8])
          cases gk with
          | zero => exact absurd HA.out (by simp [impl_closed.l2])
          | succ k3 =>
           have H := HA.out; clear HA; simp only [impl_closed.l2] at H; by_cases c19 : j0 < (jF.length : Int)
           ·
            rw [if_pos c19] at H; have jB := dl c19; clear c19; (try simp only [j7] at jB); (try simp only [j8] at jB); (try simp only [j9] at jB); have H' := Aside0.mk H; clear H; go_wp2; go_loopg [41] k3 (fun kq v41 w' => ∃ (j2 : List (List Int)) (j3 : Int), v41 = .int .i64 j3 ∧ Aside0 (impl_closed.l3 kq j2 j1 j0 (jh.length : Int) j1 (jF.length : Int) j0 (jG.length : Int) j3 = some r) ∧ Aside0 (kq ≤ k3) ∧ Aside0 (Kd.S (Kd.slice 3 (Kd.int .i64)) 26 w' w.heap.size (fun _ => True) (.slice j1p jG.length j1q) j2) ∧ Aside0 (Below w.heap.size w w'))
            case atStart => exact ⟨(jG), (0), ue, H', ⟨Nat.le_refl _⟩, ⟨by (try simp only [j7]); (try simp only [j8]); (with_reducible repeat (first | apply Kd.S_alloc | apply Kd.S_drewN | apply Kd.S_drew)); exact j4.out⟩, ⟨uB0 HB⟩⟩
            case round =>
             clear H'; try clear c1
             (try clear p1); (try clear q1); (try clear hx1); (try clear hf1); (try clear c2); (try clear j0L); (try clear j0M); (try clear p2); (try clear c3); (try clear j0N); (try clear j0O); (try clear c6); (try clear j0P); (try clear p6); (try clear c7); (try clear j1k); (try clear c8); (try clear j1l); (try clear c9); (try clear c10); (try clear j0u); (try clear p10); (try clear q10); (try clear j1Y); (try clear c11); (try clear p11); (try clear q11); (try clear j1Z); (try clear j20); (try clear c12); (try clear c18); (try clear jn); (try clear c19); (try clear jB); (try clear jm); (try clear j06); (try clear p1); (try clear p10); (try clear j0s); (try clear p11); (try clear p2); (try clear p6); (try clear q1); (try clear q10); (try clear j0t); (try clear q11)
             obtain ⟨j2, j3, rfl, HA, HK4, j4, HB⟩ := hrel; have j9 := (Kd.S_reads' j4.out).1; rw [j9] at j4; (try simp only [j9])
             cases gk with
             | zero => exact absurd HA.out (by simp [impl_closed.l3])
             | succ k4 =>
              have H := HA.out; clear HA; simp only [impl_closed.l3] at H; by_cases c20 : j3 < (jG.length : Int)
              ·
               rw [if_pos c20] at H; have jH := dl c20; clear c20; (try simp only [j7] at jH); (try simp only [j8] at jH); (try simp only [j9] at jH); by_cases c21 : 0 ≤ j0
               ·
                rw [if_pos c21] at H; have j2R := de c21; clear c21; by_cases c22 : j0 < (j2.length : Int)
                ·
                 rw [if_pos c22] at H; have j0w := dl c22; clear c22; (try simp only [j7] at j0w); (try simp only [j8] at j0w); (try simp only [j9] at j0w); by_cases c23 : 0 ≤ j1
                 ·
                  rw [if_pos c23] at H; have j2S := de c23; clear c23; by_cases c24 : j1 < ((rd_L5 j2 j0).length : Int)
                  ·
                   rw [if_pos c24] at H; have j0x := dl c24; clear c24; (try simp only [j7] at j0x); (try simp only [j8] at j0x); (try simp only [j9] at j0x); by_cases c25 : (rd (rd_L5 j2 j0) j1) = 99999
                   ·
                    rw [if_pos c25] at H; obtain ⟨j21, j22⟩ := dq c25; clear c25; have H' := Aside0.mk H; clear H; have jo : 0 ≤ (j0 : Int) := ua; have jp : j0 < (j2.length : Int) := ua; obtain ⟨jj, j0y, j0z, j0A, jd, je, jf⟩ := at_L5 (Kd.S_reads' j4.out).2.2 j0 jo jp
                    cases j0A
                    obtain ⟨j1f, jI, jJ, jk⟩ := Kd.S_get j4.out [] j0 jo (by first | exact jp | exact ua | (have e_ := (Kd.S_reads' j4.out).1; omega)); obtain ⟨j0e, rfl, ja⟩ := jJ; have j5 := jk 0 _ rfl; rw [Nat.add_zero, show ((Kd.slice 3 (Kd.int .i64))).sz = 1 from rfl, Nat.mul_one] at j5; replace j5 := Option.some.inj (j5.symm.trans jd); rw [j5] at ja; have jq := Aside0.mk (show Kd.R (Kd.int .i64) 3 _ _ _ _ (rd_L5 j2 j0) from ja); clear j5 ja; have j0f := Aside0.mk jd; clear jk jI; have jb := Aside0.mk jf; have j0g := Aside0.mk je; clear jf je; replace jo := eq_true jo; replace jp := eq_true jp; have jK : 0 ≤ (j1 : Int) := ua; have jL : j1 < ((rd_L5 j2 j0).length : Int) := ua; obtain ⟨j1g, j0B, j0h⟩ := Kd.at_int (by repeat (first | (with_reducible exact jb.out) | (with_reducible refine Kd.C_alloc ?_ _) | (with_reducible refine Kd.C_drewN ?_ _) | (with_reducible refine Kd.C_drew ?_) | exact jb.out)) j1 jK jL
                    cases j0B
                    replace jK := eq_true jK; replace jL := eq_true jL; go_wp2; (try simp only [← j9]); go_roundg k4
                    case measure => have := HK1.out; have := HK2.out; have := HK3.out; have := HK4.out; omega
                    case rel => exact ⟨(j2), (wrap64 (j3 + 1)), ue, H', ⟨by have := HK1.out; have := HK2.out; have := HK3.out; have := HK4.out; omega⟩, ⟨by (try simp only [j7]); (try simp only [j8]); (try simp only [j9]); (with_reducible repeat (first | apply Kd.S_alloc | apply Kd.S_drewN | apply Kd.S_drew)); exact j4.out⟩, ⟨uB0 HB⟩⟩
                   ·
                    rw [if_neg c25] at H; obtain ⟨j21, j22⟩ := dQ c25; by_cases c26 : j1 < (j2.length : Int)
                    ·
                     rw [if_pos c26] at H; have j0C := dl c26; clear c26; (try simp only [j7] at j0C); (try simp only [j8] at j0C); (try simp only [j9] at j0C); by_cases c27 : 0 ≤ j3
                     ·
                      rw [if_pos c27] at H; have j2T := de c27; clear c27; by_cases c28 : j3 < ((rd_L5 j2 j1).length : Int)
                      ·
                       rw [if_pos c28] at H; have j0D := dl c28; clear c28; (try simp only [j7] at j0D); (try simp only [j8] at j0D); (try simp only [j9] at j0D); by_cases c29 : (rd (rd_L5 j2 j1) j3) = 99999
                       ·
                        rw [if_pos c29] at H; obtain ⟨j23, j24⟩ := dq c29; clear c29; have H' := Aside0.mk H; clear H; have jo : 0 ≤ (j0 : Int) := ua; have jp : j0 < (j2.length : Int) := ua; obtain ⟨jj, j0y, j0z, j0A, jd, je, jf⟩ := at_L5 (Kd.S_reads' j4.out).2.2 j0 jo jp
                        cases j0A
                        obtain ⟨j1f, jI, jJ, jk⟩ := Kd.S_get j4.out [] j0 jo (by first | exact jp | exact ua | (have e_ := (Kd.S_reads' j4.out).1; omega)); obtain ⟨j0e, rfl, ja⟩ := jJ; have j5 := jk 0 _ rfl; rw [Nat.add_zero, show ((Kd.slice 3 (Kd.int .i64))).sz = 1 from rfl, Nat.mul_one] at j5; replace j5 := Option.some.inj (j5.symm.trans jd); rw [j5] at ja; have jq := Aside0.mk (show Kd.R (Kd.int .i64) 3 _ _ _ _ (rd_L5 j2 j0) from ja); clear j5 ja; have j0f := Aside0.mk jd; clear jk jI; have jb := Aside0.mk jf; have j0g := Aside0.mk je; clear jf je; replace jo := eq_true jo; replace jp := eq_true jp; have jK : 0 ≤ (j1 : Int) := ua; have jL : j1 < ((rd_L5 j2 j0).length : Int) := ua; obtain ⟨j1g, j0B, j0h⟩ := Kd.at_int (by repeat (first | (with_reducible exact jb.out) | (with_reducible refine Kd.C_alloc ?_ _) | (with_reducible refine Kd.C_drewN ?_ _) | (with_reducible refine Kd.C_drew ?_) | exact jb.out)) j1 jK jL
                        cases j0B
                        replace jK := eq_true jK; replace jL := eq_true jL; have jN : 0 ≤ (j1 : Int) := ua; have jO : j1 < (j2.length : Int) := ua; obtain ⟨j0E, j1r, j1s, j1t, jr, js, jt⟩ := at_L5 (Kd.S_reads' j4.out).2.2 j1 jN jO; obtain rfl : jj = j0E := (by injection j1t)
                        obtain ⟨j25, j07, j08, jM⟩ := Kd.S_get j4.out [] j1 jN (by first | exact jO | exact ua | (have e_ := (Kd.S_reads' j4.out).1; omega)); obtain ⟨j0T, rfl, ji⟩ := j08; have jc := jM 0 _ rfl; rw [Nat.add_zero, show ((Kd.slice 3 (Kd.int .i64))).sz = 1 from rfl, Nat.mul_one] at jc; replace jc := Option.some.inj (jc.symm.trans jr); rw [jc] at ji; have jC := Aside0.mk (show Kd.R (Kd.int .i64) 3 _ _ _ _ (rd_L5 j2 j1) from ji); clear jc ji; have j0U := Aside0.mk jr; clear jM j07; have jg := Aside0.mk jt; have j0V := Aside0.mk js; clear jt js; replace jN := eq_true jN; replace jO := eq_true jO; have j09 : 0 ≤ (j3 : Int) := ua; have j0a : j3 < ((rd_L5 j2 j1).length : Int) := ua; obtain ⟨j26, j1u, j0W⟩ := Kd.at_int (by repeat (first | (with_reducible exact jg.out) | (with_reducible refine Kd.C_alloc ?_ _) | (with_reducible refine Kd.C_drewN ?_ _) | (with_reducible refine Kd.C_drew ?_) | exact jg.out)) j3 j09 j0a
                        cases j1u
                        replace j09 := eq_true j09; replace j0a := eq_true j0a; go_wp2; (try simp only [← j9]); go_roundg k4
                        case measure => have := HK1.out; have := HK2.out; have := HK3.out; have := HK4.out; omega
                        case rel => exact ⟨(j2), (wrap64 (j3 + 1)), ue, H', ⟨by have := HK1.out; have := HK2.out; have := HK3.out; have := HK4.out; omega⟩, ⟨by (try simp only [j7]); (try simp only [j8]); (try simp only [j9]); (with_reducible repeat (first | apply Kd.S_alloc | apply Kd.S_drewN | apply Kd.S_drew)); exact j4.out⟩, ⟨uB0 HB⟩⟩
                       ·
                        rw [if_neg c29] at H; obtain ⟨j23, j24⟩ := dQ c29; by_cases c30 : j3 < ((rd_L5 j2 j0).length : Int)
                        ·
                         rw [if_pos c30] at H; have j0F := dl c30; clear c30; (try simp only [j7] at j0F); (try simp only [j8] at j0F); (try simp only [j9] at j0F); obtain ⟨ji31, hji31⟩ : ∃ j_ : Int, (mn (rd (rd_L5 j2 j0) j3) (wrap64 ((rd (rd_L5 j2 j0) j1) + (rd (rd_L5 j2 j1) j3)))) = j_ := ⟨_, rfl⟩
                         replace H : (impl_closed.l3 k4 (j2.set (j0 : Int).toNat ((rd_L5 j2 j0).set (j3 : Int).toNat (ji31))) j1 j0 (jh.length : Int) j1 (jF.length : Int) j0 (jG.length : Int) (wrap64 (j3 + 1))) = some r := by first | (rw [hji31] at H; exact H) | (simp only [hji31] at H ⊢; exact H)
                         have hji31_ : (if (wrap64 ((rd (rd_L5 j2 j0) j1) + (rd (rd_L5 j2 j1) j3))) < (rd (rd_L5 j2 j0) j3) then (wrap64 ((rd (rd_L5 j2 j0) j1) + (rd (rd_L5 j2 j1) j3))) else (rd (rd_L5 j2 j0) j3)) = ji31 := hji31; obtain ⟨j1v, j03⟩ : ∃ y_ : List Int, y_ = ((rd_L5 j2 j0).set (j3 : Int).toNat (ji31)) := ⟨_, rfl⟩
                         replace H : (impl_closed.l3 k4 (j2.set (j0 : Int).toNat j1v) j1 j0 (jh.length : Int) j1 (jF.length : Int) j0 (jG.length : Int) (wrap64 (j3 + 1))) = some r := by first | (rw [j03]; with_reducible exact H) | (have H2_ := (Option.bind_some _ _).symm.trans H; rw [j03]; with_reducible exact H2_) | (have H2_ := (Option.bind_some _ _).symm.trans H; with_reducible exact H2_) | with_reducible exact H | (rw [j03]; exact H) | exact H
                         have j27 := Aside0.mk j03; clear j03; obtain ⟨j28, j04⟩ : ∃ y_ : List (List Int), y_ = (j2.set (j0 : Int).toNat j1v) := ⟨_, rfl⟩
                         replace H : (impl_closed.l3 k4 j28 j1 j0 (jh.length : Int) j1 (jF.length : Int) j0 (jG.length : Int) (wrap64 (j3 + 1))) = some r := by first | (rw [j04]; with_reducible exact H) | (have H2_ := (Option.bind_some _ _).symm.trans H; rw [j04]; with_reducible exact H2_) | (have H2_ := (Option.bind_some _ _).symm.trans H; with_reducible exact H2_) | with_reducible exact H | (rw [j04]; exact H) | exact H
                         have j29 := Aside0.mk j04; clear j04; have H' := Aside0.mk H; clear H; have jo : 0 ≤ (j0 : Int) := ua; have jp : j0 < (j2.length : Int) := ua; obtain ⟨jj, j0y, j0z, j0A, jd, je, jf⟩ := at_L5 (Kd.S_reads' j4.out).2.2 j0 jo jp
                         cases j0A
                         obtain ⟨j1f, jI, jJ, jk⟩ := Kd.S_get j4.out [] j0 jo (by first | exact jp | exact ua | (have e_ := (Kd.S_reads' j4.out).1; omega)); obtain ⟨j0e, rfl, ja⟩ := jJ; have j5 := jk 0 _ rfl; rw [Nat.add_zero, show ((Kd.slice 3 (Kd.int .i64))).sz = 1 from rfl, Nat.mul_one] at j5; replace j5 := Option.some.inj (j5.symm.trans jd); rw [j5] at ja; have jq := Aside0.mk (show Kd.R (Kd.int .i64) 3 _ _ _ _ (rd_L5 j2 j0) from ja); clear j5 ja; have j0f := Aside0.mk jd; clear jk jI; have jb := Aside0.mk jf; have j0g := Aside0.mk je; clear jf je; replace jo := eq_true jo; replace jp := eq_true jp; have jK : 0 ≤ (j1 : Int) := ua; have jL : j1 < ((rd_L5 j2 j0).length : Int) := ua; obtain ⟨j1g, j0B, j0h⟩ := Kd.at_int (by repeat (first | (with_reducible exact jb.out) | (with_reducible refine Kd.C_alloc ?_ _) | (with_reducible refine Kd.C_drewN ?_ _) | (with_reducible refine Kd.C_drew ?_) | exact jb.out)) j1 jK jL
                         cases j0B
                         replace jK := eq_true jK; replace jL := eq_true jL; have jN : 0 ≤ (j1 : Int) := ua; have jO : j1 < (j2.length : Int) := ua; obtain ⟨j0E, j1r, j1s, j1t, jr, js, jt⟩ := at_L5 (Kd.S_reads' j4.out).2.2 j1 jN jO; obtain rfl : jj = j0E := (by injection j1t)
                         obtain ⟨j25, j07, j08, jM⟩ := Kd.S_get j4.out [] j1 jN (by first | exact jO | exact ua | (have e_ := (Kd.S_reads' j4.out).1; omega)); obtain ⟨j0T, rfl, ji⟩ := j08; have jc := jM 0 _ rfl; rw [Nat.add_zero, show ((Kd.slice 3 (Kd.int .i64))).sz = 1 from rfl, Nat.mul_one] at jc; replace jc := Option.some.inj (jc.symm.trans jr); rw [jc] at ji; have jC := Aside0.mk (show Kd.R (Kd.int .i64) 3 _ _ _ _ (rd_L5 j2 j1) from ji); clear jc ji; have j0U := Aside0.mk jr; clear jM j07; have jg := Aside0.mk jt; have j0V := Aside0.mk js; clear jt js; replace jN := eq_true jN; replace jO := eq_true jO; have j09 : 0 ≤ (j3 : Int) := ua; have j0a : j3 < ((rd_L5 j2 j1).length : Int) := ua; obtain ⟨j26, j1u, j0W⟩ := Kd.at_int (by repeat (first | (with_reducible exact jg.out) | (with_reducible refine Kd.C_alloc ?_ _) | (with_reducible refine Kd.C_drewN ?_ _) | (with_reducible refine Kd.C_drew ?_) | exact jg.out)) j3 j09 j0a
                         cases j1u
                         replace j09 := eq_true j09; replace j0a := eq_true j0a; try go_wp2
                         replace j4 := Aside0.mk (Kd.S_drew j4.out); replace jq := Aside0.mk (Kd.R_drew jq.out); replace jC := Aside0.mk (Kd.R_drew jC.out); replace jb := Aside0.mk (Kd.C_drew jb.out); replace jg := Aside0.mk (Kd.C_drew jg.out); replace HB := Aside0.mk (below_drew1 HB.out); have j0X : 0 ≤ (j0 : Int) := ua; have j0Y : j0 < (j2.length : Int) := ua; obtain ⟨j2a, j2x, j0b, j2y, jl, j0i, j0j⟩ := at_L5 (Kd.S_reads' j4.out).2.2 j0 j0X j0Y; obtain rfl : jj = j2a := (by injection j2y)
                         obtain ⟨j2U, j1w, j1x, j0G⟩ := Kd.S_get j4.out [] j0 j0X (by first | exact j0Y | exact ua | (have e_ := (Kd.S_reads' j4.out).1; omega)); obtain ⟨j2k, rfl, jP⟩ := j1x; have ju := j0G 0 _ rfl; rw [Nat.add_zero, show ((Kd.slice 3 (Kd.int .i64))).sz = 1 from rfl, Nat.mul_one] at ju; replace ju := Option.some.inj (ju.symm.trans jl); rw [ju] at jP; have jQ := Aside0.mk (show Kd.R (Kd.int .i64) 3 _ _ _ _ (rd_L5 j2 j0) from jP); clear ju jP; have j0k := Aside0.mk jl; clear j0G j1w; have j0Z := Aside0.mk j0j; have j2l := Aside0.mk j0i; clear j0j j0i; replace j0X := eq_true j0X; replace j0Y := eq_true j0Y; have j10 : 0 ≤ (j0 : Int) := ua; have j11 : j0 < (j2.length : Int) := ua; obtain ⟨j2b, j2z, j2A, j2B, jv, j0l, j0m⟩ := at_L5 (Kd.S_reads' j4.out).2.2 j0 j10 j11; obtain rfl : jj = j2b := (by injection j2B)
                         obtain ⟨j2V, j1y, j1z, j0H⟩ := Kd.S_get j4.out [] j0 j10 (by first | exact j11 | exact ua | (have e_ := (Kd.S_reads' j4.out).1; omega)); obtain ⟨j2m, rfl, jR⟩ := j1z; have jw := j0H 0 _ rfl; rw [Nat.add_zero, show ((Kd.slice 3 (Kd.int .i64))).sz = 1 from rfl, Nat.mul_one] at jw; replace jw := Option.some.inj (jw.symm.trans jv); rw [jw] at jR; have j12 := Aside0.mk (show Kd.R (Kd.int .i64) 3 _ _ _ _ (rd_L5 j2 j0) from jR); clear jw jR; have j13 := Aside0.mk jv; clear j0H j1y; have jS := Aside0.mk j0m; have j2n := Aside0.mk j0l; clear j0m j0l; replace j10 := eq_true j10; replace j11 := eq_true j11; have ea_ := Option.some.inj (jl.symm.trans jv); injection ea_ with ea_ en_ ec_
                         subst ea_; subst ec_; clear en_; have j1A : 0 ≤ (j3 : Int) := ua; have j1B : j3 < ((rd_L5 j2 j0).length : Int) := ua; obtain ⟨j2W, j2C, jT⟩ := Kd.at_int (by repeat (first | (with_reducible exact jS.out) | (with_reducible refine Kd.C_alloc ?_ _) | (with_reducible refine Kd.C_drewN ?_ _) | (with_reducible refine Kd.C_drew ?_) | exact jS.out)) j3 j1A j1B
                         cases j2C
                         replace j1A := eq_true j1A; replace j1B := eq_true j1B; have j14 : 0 ≤ (j0 : Int) := ua; have j15 : j0 < (j2.length : Int) := ua; obtain ⟨j2c, j2D, j2E, j2F, jx, j0n, j0o⟩ := at_L5 (Kd.S_reads' j4.out).2.2 j0 j14 j15; obtain rfl : jj = j2c := (by injection j2F)
                         obtain ⟨j2X, j1C, j1D, j0I⟩ := Kd.S_get j4.out [] j0 j14 (by first | exact j15 | exact ua | (have e_ := (Kd.S_reads' j4.out).1; omega)); obtain ⟨j2o, rfl, jU⟩ := j1D; have jy := j0I 0 _ rfl; rw [Nat.add_zero, show ((Kd.slice 3 (Kd.int .i64))).sz = 1 from rfl, Nat.mul_one] at jy; replace jy := Option.some.inj (jy.symm.trans jx); rw [jy] at jU; have j16 := Aside0.mk (show Kd.R (Kd.int .i64) 3 _ _ _ _ (rd_L5 j2 j0) from jU); clear jy jU; have j17 := Aside0.mk jx; clear j0I j1C; have jV := Aside0.mk j0o; have j2p := Aside0.mk j0n; clear j0o j0n; replace j14 := eq_true j14; replace j15 := eq_true j15; have ea_ := Option.some.inj (jl.symm.trans jx); injection ea_ with ea_ en_ ec_
                         subst ea_; subst ec_; clear en_; have j1E : 0 ≤ (j1 : Int) := ua; have j1F : j1 < ((rd_L5 j2 j0).length : Int) := ua; obtain ⟨j2Y, j2G, jW⟩ := Kd.at_int (by repeat (first | (with_reducible exact jV.out) | (with_reducible refine Kd.C_alloc ?_ _) | (with_reducible refine Kd.C_drewN ?_ _) | (with_reducible refine Kd.C_drew ?_) | exact jV.out)) j1 j1E j1F
                         cases j2G
                         replace j1E := eq_true j1E; replace j1F := eq_true j1F; have j18 : 0 ≤ (j1 : Int) := ua; have j19 : j1 < (j2.length : Int) := ua; obtain ⟨j2d, j2H, j1G, j2I, jD, j0p, j0q⟩ := at_L5 (Kd.S_reads' j4.out).2.2 j1 j18 j19; obtain rfl : jj = j2d := (by injection j2I)
                         obtain ⟨j2Z, j1H, j1I, j0J⟩ := Kd.S_get j4.out [] j1 j18 (by first | exact j19 | exact ua | (have e_ := (Kd.S_reads' j4.out).1; omega)); obtain ⟨j2q, rfl, jX⟩ := j1I; have jz := j0J 0 _ rfl; rw [Nat.add_zero, show ((Kd.slice 3 (Kd.int .i64))).sz = 1 from rfl, Nat.mul_one] at jz; replace jz := Option.some.inj (jz.symm.trans jD); rw [jz] at jX; have j1a := Aside0.mk (show Kd.R (Kd.int .i64) 3 _ _ _ _ (rd_L5 j2 j1) from jX); clear jz jX; have j1b := Aside0.mk jD; clear j0J j1H; have jY := Aside0.mk j0q; have j2r := Aside0.mk j0p; clear j0q j0p; replace j18 := eq_true j18; replace j19 := eq_true j19; have j1J : 0 ≤ (j3 : Int) := ua; have j1K : j3 < ((rd_L5 j2 j1).length : Int) := ua; obtain ⟨j1h, j2J, j0r⟩ := Kd.at_int (by repeat (first | (with_reducible exact jY.out) | (with_reducible refine Kd.C_alloc ?_ _) | (with_reducible refine Kd.C_drewN ?_ _) | (with_reducible refine Kd.C_drew ?_) | exact jY.out)) j3 j1J j1K
                         cases j2J
                         replace j1J := eq_true j1J; replace j1K := eq_true j1K; have p32 : 0 ≤ (j3 : Int) := ua; have q32 : (j3 : Int) < (((rd_L5 j2 j0).length : Int) : Int) := ua; obtain ⟨j0K, j33, j2e, j2f, j2K, j34, j2g⟩ := Kd.R_form jQ.out (by omega); (first | cases j2e | (injection j2e with ea_ en_ ec_; (first | subst ea_ | (injection ea_ with ea_; subst ea_)); subst ec_; clear en_)); have j2L := Aside0.mk j2f; have j2M := Aside0.mk j2g; clear j2f j2K j2g; (first | simp only [add_plain] at jW | skip); (first | simp only [add_plain] at jT | skip); obtain ⟨j1L, j1M⟩ := Kd.R_celln 0 jQ.out (j3 : Int) p32 q32; replace p32 := eq_true p32; replace q32 := eq_true q32; have hq34 : (j0 : Int) < (j2.length : Int) := (by have h_ : (j0 : Int) < ((j2.length : Int) : Int) := ua; first | exact h_ | (have e_ := (Kd.S_reads' j4.out).1; omega) | simpa only [List.length_set, List.length_set] using h_)
                         obtain ⟨j30, j35, j2h, j2N, j1i, j2i, j1j⟩ := Kd.S_borrow j4.out [] (j0 : Int) (ua) hq34; obtain ⟨j2O, rfl, jZ⟩ := j2N; have j1c := j1i 0 _ rfl; rw [Nat.add_zero, show ((Kd.slice 3 (Kd.int .i64))).sz = 1 from rfl, Nat.mul_one] at j1c; replace j1c := Option.some.inj (j1c.symm.trans j0k.out); subst j1c; clear j1i j2h; replace jZ := (show Kd.R (Kd.int .i64) 3 _ _ _ _ (rd_L5 j2 j0) from jZ)
                         have j1d := Kd.R_putg jZ (j3 : Int) ji31; rw [← j27.out] at j1d; have j1N := j1j j1d.2 (fun k_ e_ => by injection e_ with e_; subst e_; exact jZ.1 _ rfl) (x' := j1v) (Kd.M_row j1d.1); rw [← j29.out] at j1N; have j2j := Aside0.mk j1N; clear j1d j1N j1j j2i; refine start_ (n := 30) (S := fun w' => w'.cell? (jj.add (j0).toNat) = some (.slice (some ⟨j0K, 0, none⟩) (rd_L5 j2 j0).length j0b) ∧ w'.cell? (jj.add (j0).toNat) = some (.slice (some ⟨j0K, 0, none⟩) (rd_L5 j2 j0).length j0b) ∧ w'.cell? ⟨j0K, (j3).toNat, none⟩ = some (.int .i64 (rd (rd_L5 j2 j0) j3)) ∧ w'.cell? (jj.add (j0).toNat) = some (.slice (some ⟨j0K, 0, none⟩) (rd_L5 j2 j0).length j0b) ∧ w'.cell? ⟨j0K, (j1).toNat, none⟩ = some (.int .i64 (rd (rd_L5 j2 j0) j1)) ∧ w'.cell? (jj.add (j1).toNat) = some (.slice (some j1h) (rd_L5 j2 j1).length j1G) ∧ w'.cell? (j1h.add (j3).toNat) = some (.int .i64 (rd (rd_L5 j2 j1) j3))) (ds := [29]) (zt 30 0) (by kernel_rfl) rfl (by kernel_rfl) ⟨jl, jv, jT, jx, jW, jD, j0r⟩ (fun hHeld => ?_); refine with_tabW impl_closed.tab19 impl_closed.bits19 (fun HT_ HW_ => ?_); generalize wr.drew = w33 at j4 jq jC jb jg HB j2M jQ j12 j16 j1a j2j j0Z jS jV jY j0k j13 j17 j1b j1M jl jv jT jx jW jD j0r j1L hHeld ⊢; refine qz HT_ 0 ?_; refine qz HT_ 1 ?_; refine qz HT_ 2 ?_; refine qz HT_ 4 ?_; refine qz HT_ 5 ?_; refine qz HT_ 6 ?_; refine qz HT_ 7 ?_; refine qz HT_ 9 ?_; refine qz HT_ 12 ?_; refine qz HT_ 13 ?_; refine qz HT_ 14 ?_; refine qz HT_ 16 ?_; refine qz HT_ 19 ?_; refine qz HT_ 20 ?_; refine qz HT_ 21 ?_; refine qz HT_ 23 ?_; refine qt HT_ HW_ hHeld 3 ?_; refine qt HT_ HW_ hHeld 8 ?_; refine qz HT_ 10 ?_; refine qt HT_ HW_ hHeld 11 ?_; refine qt HT_ HW_ hHeld 15 ?_; refine qz HT_ 17 ?_; refine qt HT_ HW_ hHeld 18 ?_; refine qt HT_ HW_ hHeld 22 ?_; refine qz HT_ 24 ?_; refine qt HT_ HW_ hHeld 25 ?_; refine qz HT_ 26 ?_; refine qz HT_ 27 ?_; refine qz HT_ 28 ?_; refine last_ (i := 29) (N := none) (zt 30 1073741823) rfl rfl (one_of HT_.out (by kernel_rfl)) (by decide) (fun K hK => ?_); refine skip_ (w1 := ?_) (by rfl) rfl ?_ ?_; rotate_left
                         ·
                          go_simp; rfl
                         refine hK.out _ _ ?_; clear hK K; refine done_ (done_of HT_.out (by kernel_rfl)) ?_; try go_wp2
                         (try simp only [← j9]); go_roundg k4
                         case measure => have := HK1.out; have := HK2.out; have := HK3.out; have := HK4.out; omega
                         case rel => exact ⟨(j28), (wrap64 (j3 + 1)), ue, H', ⟨by have := HK1.out; have := HK2.out; have := HK3.out; have := HK4.out; omega⟩, ⟨by (try simp only [j7]); (try simp only [j8]); (try simp only [j9]); (with_reducible repeat (first | apply Kd.S_alloc | apply Kd.S_drewN | apply Kd.S_drew)); exact j2j.out⟩, ⟨uB1 HB j2L.out⟩⟩
                        ·
                         rw [if_neg c30] at H; exact absurd H (by simp)
                      ·
                       rw [if_neg c28] at H; exact absurd H (by simp)
                     ·
                      rw [if_neg c27] at H; exact absurd H (by simp)
                    ·
                     rw [if_neg c26] at H; exact absurd H (by simp)
                  ·
                   rw [if_neg c24] at H; exact absurd H (by simp)
                 ·
                  rw [if_neg c23] at H; exact absurd H (by simp)
                ·
                 rw [if_neg c22] at H; exact absurd H (by simp)
               ·
                rw [if_neg c21] at H; exact absurd H (by simp)
              ·
               rw [if_neg c20] at H; have jH := DL c20; clear c20; (try simp only [j7] at jH); (try simp only [j8] at jH); (try simp only [j9] at jH); have H' := Aside0.mk H; clear H; go_wp2; (try simp only [← j8, ← j9]); go_roundg k4
               case measure => have := HK1.out; have := HK2.out; have := HK3.out; have := HK4.out; omega
               case rel => exact ⟨(j2), (wrap64 (j0 + 1)), ue, H', ⟨by have := HK1.out; have := HK2.out; have := HK3.out; have := HK4.out; omega⟩, ⟨by (try simp only [j7]); (try simp only [j8]); (try simp only [j9]); (with_reducible repeat (first | apply Kd.S_alloc | apply Kd.S_drewN | apply Kd.S_drew)); exact j4.out⟩, ⟨uB0 HB⟩⟩
           ·
            rw [if_neg c19] at H; have jB := DL c19; clear c19; (try simp only [j7] at jB); (try simp only [j8] at jB); (try simp only [j9] at jB); have H' := Aside0.mk H; clear H; go_wp2; (try simp only [← j7, ← j8]); go_roundg k3
            case measure => have := HK1.out; have := HK2.out; have := HK3.out; omega
            case rel => exact ⟨(jG), (wrap64 (j1 + 1)), ue, H', ⟨by have := HK1.out; have := HK2.out; have := HK3.out; omega⟩, ⟨by (try simp only [j7]); (try simp only [j8]); (with_reducible repeat (first | apply Kd.S_alloc | apply Kd.S_drewN | apply Kd.S_drew)); exact j4.out⟩, ⟨uB0 HB⟩⟩
        ·
         rw [if_neg c18] at H; have jn := DL c18; clear c18; (try simp only [j7] at jn); (try simp only [j8] at jn); (try simp only [j9] at jn); obtain rfl := Option.some.inj H; go_wp2; go_ret; exact ⟨_, by first | rfl | (simp [errW_none, errW_some] <;> rfl) | (simp [*, errW_none, errW_some] <;> rfl), by (with_reducible repeat (first | apply Kd.S_alloc | apply Kd.S_drewN | apply Kd.S_drew)); exact j4.out, uB0 HB⟩
  ·
   rw [if_neg c3] at H; exact absurd H (by simp)
 ·
  rw [if_neg c2] at H; exact absurd H (by simp)

end Go.Proofs.Ytblpdfgplifccaa.P
