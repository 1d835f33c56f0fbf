-- written for this claim by a program (wip/gen/myprint.py over the print tool). Not trusted: Lean checks it.
import Derived.Test.YtblpdfgplifccaaPx0
import Derived.Test.YtblpdfgplifccaaHUp
import Derived.Test.YtblpdfgplifccaaHLib
namespace Go.Proofs.Ytblpdfgplifccaa.P
open Go.RowKit Go.Proofs.YtblpdfgplifccaaV.PrintWords Go.Proofs.YtblpdfgplifccaaV.PrintLast
set_option linter.unusedVariables false
set_option linter.unusedSimpArgs false

/-! ### impl_closed: function 94 -/
mutual
def impl_closed.l0 : Nat → List (List Int) → List (List Int) → Int → Int → Option ((List (List Int)))
 | 0, _, _, _, _ => none
 | k + 1, x3, x12, x13, x14 => if x14 < x13 then (if 0 ≤ x14 then (if x14 < (x12.length : Int) then ((slices_Clone_int.f (rd_L5 x12 x14)).bind fun t105 => (if x14 < (t105.length : Int) then (if x3.length < 5864062014805 then (impl_closed.l0 k (x3 ++ [(t105.set (x14 : Int).toNat 0)]) x12 x13 (wrap64 (x14 + 1))) else (none)) else (none))) else (none)) else (none)) else (impl_closed.l1 k x3 (x3.length : Int) 0)
def impl_closed.l1 : Nat → List (List Int) → Int → Int → Option ((List (List Int)))
 | 0, _, _, _ => none
 | k + 1, x3, x30, x31 => if x31 < x30 then (impl_closed.l2 k x3 x31 x30 x31 (x3.length : Int) 0) else (some x3)
def impl_closed.l2 : Nat → List (List Int) → Int → Int → Int → Int → Int → Option ((List (List Int)))
 | 0, _, _, _, _, _, _ => none
 | k + 1, x3, x6, x30, x31, x35, x36 => if x36 < x35 then (impl_closed.l3 k x3 x6 x36 x30 x31 x35 x36 (x3.length : Int) 0) else (impl_closed.l1 k x3 x30 (wrap64 (x31 + 1)))
def impl_closed.l3 : Nat → List (List Int) → Int → Int → Int → Int → Int → Int → Int → Int → Option ((List (List Int)))
 | 0, _, _, _, _, _, _, _, _, _ => none
 | k + 1, x3, x6, x7, x30, x31, x35, x36, x40, x41 => if x41 < x40 then (if 0 ≤ x7 then (if x7 < (x3.length : Int) then (if 0 ≤ x6 then (if x6 < ((rd_L5 x3 x7).length : Int) then (if (rd (rd_L5 x3 x7) x6) = 99999 then (impl_closed.l3 k x3 x6 x7 x30 x31 x35 x36 x40 (wrap64 (x41 + 1))) else (if x6 < (x3.length : Int) then (if 0 ≤ x41 then (if x41 < ((rd_L5 x3 x6).length : Int) then (if (rd (rd_L5 x3 x6) x41) = 99999 then (impl_closed.l3 k x3 x6 x7 x30 x31 x35 x36 x40 (wrap64 (x41 + 1))) else (if x41 < ((rd_L5 x3 x7).length : Int) then (impl_closed.l3 k (x3.set (x7 : Int).toNat ((rd_L5 x3 x7).set (x41 : Int).toNat (mn (rd (rd_L5 x3 x7) x41) (wrap64 ((rd (rd_L5 x3 x7) x6) + (rd (rd_L5 x3 x6) x41)))))) x6 x7 x30 x31 x35 x36 x40 (wrap64 (x41 + 1))) else (none))) else (none)) else (none)) else (none))) else (none)) else (none)) else (none)) else (none)) else (impl_closed.l2 k x3 x6 x30 x31 x35 (wrap64 (x36 + 1)))
end
def impl_closed.f (k : Nat) (l0 : List (List Int)) : Option ((List (List Int))) := if 0 ≤ (l0.length : Int) then (if ((l0.length : Int) : Int).toNat ≤ 11728124029610 then (impl_closed.l0 k (([] : List (List Int))) l0 (l0.length : Int) 0) else (none)) else (none)
def impl_closed.T19 : Bool × List (List Nat × List Nat) := (true, [([], []), ([], []), ([0, 1], [0, 1]), ([2], [2]), ([], []), ([], []), ([], []), ([5, 6], [5, 6]), ([7], [7]), ([], []), ([8, 9], [8, 9]), ([10], [10]), ([], []), ([], []), ([12, 13], [12, 13]), ([14], [14]), ([], []), ([15, 16], [15, 16]), ([17], [17]), ([], []), ([], []), ([19, 20], [19, 20]), ([21], [21]), ([], []), ([22, 23], [22, 23]), ([24], [24]), ([18, 25], [18, 25]), ([11, 26], [11, 26]), ([3, 4, 0, 1, 2, 3, 4, 5, 6, 7, 8, 9, 10, 11, 12, 13, 14, 15, 16, 17, 18, 19, 20, 21, 22, 23, 24, 25, 26, 27], [3, 4]), ([28, 27, 0, 1, 2, 3, 4, 5, 6, 7, 8, 9, 10, 11, 12, 13, 14, 15, 16, 17, 18, 19, 20, 21, 22, 23, 24, 25, 26, 27], [27, 28])])
def impl_closed.B19 : List Nat := [0, 0, 3, 7, 0, 0, 0, 96, 224, 0, 992, 2016, 0, 0, 12288, 28672, 0, 126976, 258048, 0, 0, 1572864, 3670016, 0, 16252928, 33030144, 67104768, 134217696, 268435455, 536870911]
theorem impl_closed.tab19 : rtab .any (opsOf Try.f94 19) = impl_closed.T19 := by kernel_rfl
theorem impl_closed.bits19 : waitsOk impl_closed.T19.2 impl_closed.B19 = true := by kernel_rfl
set_option maxHeartbeats 8000000 in
set_option maxRecDepth 100000 in
theorem impl_closed.calls (k : Nat) (A0 : Option Addr) (c0 : Nat) (l0 : List (List Int)) (r : List (List Int)) (w : World) (hr0 : Kd.C (Kd.slice 3 (Kd.int .i64)) w A0 l0.length l0) (hc0 : l0.length ≤ c0) (h : impl_closed.f k l0 = some r) :
  Calls Try.prog 94 #[.slice A0 l0.length c0] w fun e w' => ∃ v0_ : Value, e = .returned (v0_) ∧ Kd.S (Kd.slice 3 (Kd.int .i64)) 26 w' w.heap.size (fun _ => True) v0_ r ∧ Below w.heap.size w w' := by
 have HR0 := Aside0.mk hr0
 have HC0 := Aside0.mk hc0
 clear hr0 hc0
 have HB := Aside0.mk (Below.refl w.heap.size w)
 have H : (if 0 ≤ (l0.length : Int) then (if ((l0.length : Int) : Int).toNat ≤ 11728124029610 then (impl_closed.l0 k (([] : List (List Int))) l0 (l0.length : Int) 0) else (none)) else (none)) = some r := h
 clear h
 by_cases c2 : 0 ≤ (l0.length : Int)
 ·
  rw [if_pos c2] at H; have c2b0 := eq_true c2; have c2b1 := de c2; clear c2; by_cases c3 : ((l0.length : Int) : Int).toNat ≤ 11728124029610
  ·
   rw [if_pos c3] at H; have c3b0 := eq_true c3; have c3b1 := de c3; clear c3; obtain ⟨y101, hy101⟩ : ∃ y_ : List (List Int), y_ = (([] : List (List Int))) := ⟨_, rfl⟩
   replace H : (impl_closed.l0 k y101 l0 (l0.length : Int) 0) = some r := by first | (rw [hy101]; with_reducible exact H) | (have H2_ := (Option.bind_some _ _).symm.trans H; rw [hy101]; with_reducible exact H2_) | (have H2_ := (Option.bind_some _ _).symm.trans H; with_reducible exact H2_) | with_reducible exact H | (rw [hy101]; exact H) | exact H
   have Ny101 := Aside0.mk hy101; clear hy101; have H' := Aside0.mk H; clear H; go_enter Try.func94, Try.ntmps94; go_wp2_with (first | ((with_reducible refine gate_dst (N := 11) rfl ?_); refine Kd.S_room (Kd.slice 3 (Kd.int .i64)) _ 26 rfl (N := 11) rfl 53 _ _ rfl (l0.length : Int) rfl rfl Try.underlying53 (.slice none 0 0) 24 info26 rfl (by omega) (ok := fun _ => True) trivial (ua) (Nat.le_trans (Nat.mul_le_mul_right _ (ua : (l0.length : Int).toNat ≤ 11728124029610)) (by omega)) (Below.refl _ _) (Nat.le_refl _) ?_; intro v102 w4 ho5 hb hg_ hnew_; clear hg_ hnew_; (first | rw [← Ny101.out] at ho5 | (simp only [Int.reduceToNat] at ho5; rw [← Ny101.out] at ho5)); have HO103 := Aside0.mk (Kd.S_lower ho5 (below_size (uB0 HB))); replace HB := Aside0.mk (below_step (uB0 HB) hb); clear hb ho5)); go_loopg [3, 14] k (fun kq v3 v14 w' => ∃ (x3_1 : List (List Int)) (x14_1 : Int), v14 = .int .i64 x14_1 ∧ Aside0 (impl_closed.l0 kq x3_1 l0 (l0.length : Int) x14_1 = some r) ∧ Aside0 (kq ≤ k) ∧ Aside0 (Kd.S (Kd.slice 3 (Kd.int .i64)) 26 w' w.heap.size (fun _ => True) v3 x3_1) ∧ Aside0 (Below w.heap.size w w'))
   case atStart => exact ⟨(y101), (0), ue, H', ⟨Nat.le_refl _⟩, ⟨by (with_reducible repeat (first | apply Kd.S_alloc | apply Kd.S_drewN | apply Kd.S_drew)); exact HO103.out⟩, ⟨uB0 HB⟩⟩
   case round =>
    clear H'; try clear c2
    try clear c2b0
    try clear c2b1
    try clear p2
    try clear c3
    try clear c3b0
    try clear c3b1
    obtain ⟨x3_1, x14_1, rfl, HA, HK1, HO_3, HB⟩ := hrel
    cases gk with
    | zero => exact absurd HA.out (by simp [impl_closed.l0])
    | succ k1 =>
     have H := HA.out; clear HA; simp only [impl_closed.l0] at H; by_cases c6 : x14_1 < (l0.length : Int)
     ·
      rw [if_pos c6] at H; have c6b0 := dl c6; clear c6; by_cases c7 : 0 ≤ x14_1
      ·
       rw [if_pos c7] at H; have c7b0 := de c7; clear c7; by_cases c8 : x14_1 < (l0.length : Int)
       ·
        rw [if_pos c8] at H; have c8b0 := dl c8; clear c8; replace H := Option.bind_eq_some_iff.mp H; obtain ⟨t105, A90, H⟩ := H; replace H : (if x14_1 < (t105.length : Int) then (if x3_1.length < 5864062014805 then (impl_closed.l0 k1 (x3_1 ++ [(t105.set (x14_1 : Int).toNat 0)]) l0 (l0.length : Int) (wrap64 (x14_1 + 1))) else (none)) else (none)) = some r := H; have A9 := Aside0.mk A90; clear A90; by_cases c10 : x14_1 < (t105.length : Int)
        ·
         rw [if_pos c10] at H; have c10b0 := dl c10; clear c10; obtain ⟨y108, hy108⟩ : ∃ y_ : List Int, y_ = (t105.set (x14_1 : Int).toNat 0) := ⟨_, rfl⟩
         replace H : (if x3_1.length < 5864062014805 then (impl_closed.l0 k1 (x3_1 ++ [y108]) l0 (l0.length : Int) (wrap64 (x14_1 + 1))) else (none)) = some r := by first | (rw [hy108]; with_reducible exact H) | (have H2_ := (Option.bind_some _ _).symm.trans H; rw [hy108]; with_reducible exact H2_) | (have H2_ := (Option.bind_some _ _).symm.trans H; with_reducible exact H2_) | with_reducible exact H | (rw [hy108]; exact H) | exact H
         have Ny108 := Aside0.mk hy108; clear hy108; by_cases c12 : x3_1.length < 5864062014805
         ·
          rw [if_pos c12] at H; have LMc12 := Aside0.mk c12; clear c12; obtain ⟨y109, hy109⟩ : ∃ y_ : List (List Int), y_ = (x3_1 ++ [y108]) := ⟨_, rfl⟩
          replace H : (impl_closed.l0 k1 y109 l0 (l0.length : Int) (wrap64 (x14_1 + 1))) = some r := by first | (rw [hy109]; with_reducible exact H) | (have H2_ := (Option.bind_some _ _).symm.trans H; rw [hy109]; with_reducible exact H2_) | (have H2_ := (Option.bind_some _ _).symm.trans H; with_reducible exact H2_) | with_reducible exact H | (rw [hy109]; exact H) | exact H
          have Ny109 := Aside0.mk hy109; clear hy109; have H' := Aside0.mk H; clear H; have p104 : 0 ≤ (x14_1 : Int) := ua; have q104 : x14_1 < (l0.length : Int) := ua; obtain ⟨ad104, A104_0, c104_0, e104, hx104_0, hl104_0, hi104_0⟩ := at_L5 HR0.out x14_1 p104 q104
          cases e104
          replace hx104_0 := uc HB hx104_0; have HR104_0 := Aside0.mk hi104_0; have HC104_0 := Aside0.mk hl104_0; clear hi104_0 hl104_0; replace p104 := eq_true p104; replace q104 := eq_true q104; go_wp2_with (first | ((with_reducible refine gate_callee (f := 117) rfl ?_); refine goesL_ (some 20) rfl rfl Try.func117 (by kernel_rfl) rfl #[.slice A104_0 (rd_L5 l0 x14_1).length c104_0] rfl ul ?_; (with_reducible refine (slices_Clone_int.calls _ _ (rd_L5 l0 x14_1) t105 _ ?side1 ?side2 A9.out).mono ?_); (case side1 => exact uC HR104_0 HB); (case side2 => exact HC104_0.out); rintro e w13 ⟨v106, rfl, ho0, hb⟩; refine ⟨_, rfl, ?_⟩; replace HO_3 := Aside0.mk (Kd.S_elder' (by (with_reducible repeat (first | apply Kd.S_alloc | apply Kd.S_drewN | apply Kd.S_drew)); exact HO_3.out) (Kd.R_base ho0) hb); have HO107 := Aside0.mk (Kd.R_lower ho0 (below_size (uB0 HB))); replace HB := Aside0.mk (below_step (uB0 HB) hb); (try clear hb); (try clear hb2); (try clear hk); (try clear hi); (try clear ho0); have p11 : 0 ≤ (x14_1 : Int) := ua; have q11 : (x14_1 : Int) < ((t105.length : Int) : Int) := ua; obtain ⟨go11, co11, eo11, gb11, gl11, cl11, HG11⟩ := Kd.R_form HO107.out (by omega); (first | cases eo11 | (injection eo11 with ea_ en_ ec_; (first | subst ea_ | (injection ea_ with ea_; subst ea_)); subst ec_; clear en_)); have GB11 := Aside0.mk gb11; have GG11 := Aside0.mk HG11; clear gb11 gl11 HG11; obtain ⟨hx11_0, hf11_0⟩ := Kd.R_celln 0 HO107.out (x14_1 : Int) p11 q11; replace p11 := eq_true p11; replace q11 := eq_true q11; obtain ⟨hy14_, hz14_⟩ := Kd.R_celln 0 HO107.out (x14_1 : Int) (ua) (ua); have HP14 := Kd.R_putg HO107.out (x14_1 : Int) 0) | ((with_reducible refine gate_store (t := 3) (p := 23) rfl ?_); refine store_event (t := 3) (p := 23) (v := ?vo_w15) (w1 := (w13.setCell ⟨go11, (x14_1 : Int).toNat, none⟩ (.int .i64 0))) ?hg ?ho ?hn ?hr ?_; (case ho => rfl); (case hg => rfl); (case hn => rfl); (case hr => first | (go_simp; done) | (go_simp; rfl)); intro w15 hw; have hg : w13.grownBy w15 (some go11) := (by rw [hw]; exact HP14.2); have hp_ : Kd.R (Kd.int .i64) 3 w15 w.heap.size (fun _ => True) (.slice (some ⟨go11, 0, none⟩) t105.length co11) y108 := (by rw [hw, Ny108.out]; exact HP14.1); clear HP14; replace HO_3 := Aside0.mk (Kd.S_after (v := (.slice (some ⟨go11, 0, none⟩) t105.length co11)) (v1 := (.slice (some ⟨go11, 0, none⟩) t105.length co11)) (ok := (fun _ => True)) (by (with_reducible repeat (first | apply Kd.S_alloc | apply Kd.S_drewN | apply Kd.S_drew)); exact HO_3.out) hg (.inl rfl)); replace HO107 := Aside0.mk (hp_); replace HB := Aside0.mk ((by rw [hw]; exact below_set (HB.out) GB11.out : Below w.heap.size w w15)); clear hg hw hp_) | ((with_reducible refine gate_builtin (b := .append) (xs := #[.tmp 24, .tmp 26]) rfl ?_); at_builtin; refine Kd.S_append (Kd.slice 3 (Kd.int .i64)) (w0 := w) w.heap.size rfl (.tmp 24) (.tmp 26) 53 26 (.slice none 0 0) 24 rfl Try.underlying53 info26 rfl (by decide) (by omega) u3 x3_1 y108 [.slice (some ⟨go11, 0, none⟩) t105.length co11] (fun _ => True) (fun k_ => some k_ = (.slice (some ⟨go11, 0, none⟩) t105.length co11 : Value).ownBlock) rfl rfl ?aP (fun k_ hk_ => ((Kd.R_mono (ok' := fun k_ => ((fun _ => True)) k_ ∧ some k_ ≠ (u3 : Value).ownBlock) (Kd.R_apart' (HO107.out) (Kd.S_typed HO_3.out) (by decide)) (fun k_ hk => ⟨trivial, hk.2⟩))).1 k_ hk_.symm) ?aF ?aO ?aB ?aS ?aL ?_; (case aP => exact Kd.M_row (Kd.R_mono (Kd.R_tight rfl (Kd.R_mono (ok' := fun k_ => ((fun _ => True)) k_ ∧ some k_ ≠ (u3 : Value).ownBlock) (Kd.R_apart' (HO107.out) (Kd.S_typed HO_3.out) (by decide)) (fun k_ hk => ⟨trivial, hk.2⟩))) (fun _ h_ => h_))); (case aB => exact (uB0 HB)); (case aF => exact (fun _ _ => trivial)); (case aO => exact (by (with_reducible repeat (first | apply Kd.S_alloc | apply Kd.S_drewN | apply Kd.S_drew)); exact Kd.S_mono HO_3.out (fun k_ hk => ⟨trivial, fun e_ => hk.2 e_⟩))); (case aS => exact (below_size (uB0 HB))); (case aL => have := LMc12.out; omega); intro v110 w16 ho hb hg hat; rw [← Ny109.out] at ho; replace HB := Aside0.mk (hb); have HO111 := Aside0.mk (ho); clear HO_3; clear HO107; clear ho hb hg hat)); go_roundg k1
          case measure => have := HK1.out; omega
          case rel => exact ⟨(y109), (wrap64 (x14_1 + 1)), ue, H', ⟨by have := HK1.out; omega⟩, ⟨by (with_reducible repeat (first | apply Kd.S_alloc | apply Kd.S_drewN | apply Kd.S_drew)); exact HO111.out⟩, ⟨uB0 HB⟩⟩
         ·
          rw [if_neg c12] at H; exact absurd H (by simp)
        ·
         rw [if_neg c10] at H; exact absurd H (by simp)
       ·
        rw [if_neg c8] at H; exact absurd H (by simp)
      ·
       rw [if_neg c7] at H; exact absurd H (by simp)
     ·
      rw [if_neg c6] at H; have c6b0 := DL c6; clear c6; have H' := Aside0.mk H; clear H; obtain ⟨Ao17, co17, eo17⟩ := Kd.S_slice HO_3.out; subst eo17; go_wp2; go_loopg [31] k1 (fun kq v31 w' => ∃ (x3_2 : List (List Int)) (x31_2 : Int), v31 = .int .i64 x31_2 ∧ Aside0 (impl_closed.l1 kq x3_2 (x3_1.length : Int) x31_2 = some r) ∧ Aside0 (kq ≤ k1) ∧ Aside0 (Kd.S (Kd.slice 3 (Kd.int .i64)) 26 w' w.heap.size (fun _ => True) (.slice Ao17 x3_1.length co17) x3_2) ∧ Aside0 (Below w.heap.size w w'))
      case atStart => exact ⟨(x3_1), (0), ue, H', ⟨Nat.le_refl _⟩, ⟨by (with_reducible repeat (first | apply Kd.S_alloc | apply Kd.S_drewN | apply Kd.S_drew)); exact HO_3.out⟩, ⟨uB0 HB⟩⟩
      case round =>
       clear H'; try clear c1
       try clear p1
       try clear q1
       try clear hx1
       try clear hf1
       try clear c2
       try clear c2b0
       try clear c2b1
       try clear p2
       try clear c3
       try clear c3b0
       try clear c3b1
       try clear c6
       try clear c6b0
       try clear p6
       try clear c7
       try clear c7b0
       try clear c8
       try clear c8b0
       try clear c9
       try clear c10
       try clear c10b0
       try clear p10
       try clear q10
       try clear hx10
       try clear c11
       try clear p11
       try clear q11
       try clear hx11
       try clear hf11
       try clear c12
       try clear hx104_0
       try clear hx11_0
       try clear p104
       try clear p11
       try clear p2
       try clear q104
       try clear q11
       obtain ⟨x3_2, x31_2, rfl, HA, HK2, HO_3, HB⟩ := hrel; have hl3_2 := (Kd.S_reads' HO_3.out).1; rw [hl3_2] at HO_3; (try simp only [hl3_2])
       cases gk with
       | zero => exact absurd HA.out (by simp [impl_closed.l1])
       | succ k2 =>
        have H := HA.out; clear HA; simp only [impl_closed.l1] at H; by_cases c18 : x31_2 < (x3_1.length : Int)
        ·
         rw [if_pos c18] at H; have c18b0 := dl c18; clear c18; (try simp only [hl3_2] at c18b0); (try simp only [hl3_3] at c18b0); (try simp only [hl3_4] at c18b0); have H' := Aside0.mk H; clear H; go_wp2; go_loopg [36] k2 (fun kq v36 w' => ∃ (x3_3 : List (List Int)) (x36_3 : Int), v36 = .int .i64 x36_3 ∧ Aside0 (impl_closed.l2 kq x3_3 x31_2 (x3_1.length : Int) x31_2 (x3_2.length : Int) x36_3 = some r) ∧ Aside0 (kq ≤ k2) ∧ Aside0 (Kd.S (Kd.slice 3 (Kd.int .i64)) 26 w' w.heap.size (fun _ => True) (.slice Ao17 x3_2.length co17) x3_3) ∧ Aside0 (Below w.heap.size w w'))
         case atStart => exact ⟨(x3_2), (0), ue, H', ⟨Nat.le_refl _⟩, ⟨by (try simp only [hl3_2]); (with_reducible repeat (first | apply Kd.S_alloc | apply Kd.S_drewN | apply Kd.S_drew)); exact HO_3.out⟩, ⟨uB0 HB⟩⟩
         case round =>
          clear H'; try clear c1
          try clear p1
          try clear q1
          try clear hx1
          try clear hf1
          try clear c2
          try clear c2b0
          try clear c2b1
          try clear p2
          try clear c3
          try clear c3b0
          try clear c3b1
          try clear c6
          try clear c6b0
          try clear p6
          try clear c7
          try clear c7b0
          try clear c8
          try clear c8b0
          try clear c9
          try clear c10
          try clear c10b0
          try clear p10
          try clear q10
          try clear hx10
          try clear c11
          try clear p11
          try clear q11
          try clear hx11
          try clear hf11
          try clear c12
          try clear c18
          try clear c18b0
          try clear hx104_0
          try clear hx11_0
          try clear p1
          try clear p10
          try clear p104
          try clear p11
          try clear p2
          try clear p6
          try clear q1
          try clear q10
          try clear q104
          try clear q11
          obtain ⟨x3_3, x36_3, rfl, HA, HK3, HO_3, HB⟩ := hrel; have hl3_3 := (Kd.S_reads' HO_3.out).1; rw [hl3_3] at HO_3; (try simp only [hl3_3])
          cases gk with
          | zero => exact absurd HA.out (by simp [impl_closed.l2])
          | succ k3 =>
           have H := HA.out; clear HA; simp only [impl_closed.l2] at H; by_cases c19 : x36_3 < (x3_2.length : Int)
           ·
            rw [if_pos c19] at H; have c19b0 := dl c19; clear c19; (try simp only [hl3_2] at c19b0); (try simp only [hl3_3] at c19b0); (try simp only [hl3_4] at c19b0); have H' := Aside0.mk H; clear H; go_wp2; go_loopg [41] k3 (fun kq v41 w' => ∃ (x3_4 : List (List Int)) (x41_4 : Int), v41 = .int .i64 x41_4 ∧ Aside0 (impl_closed.l3 kq x3_4 x31_2 x36_3 (x3_1.length : Int) x31_2 (x3_2.length : Int) x36_3 (x3_3.length : Int) x41_4 = some r) ∧ Aside0 (kq ≤ k3) ∧ Aside0 (Kd.S (Kd.slice 3 (Kd.int .i64)) 26 w' w.heap.size (fun _ => True) (.slice Ao17 x3_3.length co17) x3_4) ∧ Aside0 (Below w.heap.size w w'))
            case atStart => exact ⟨(x3_3), (0), ue, H', ⟨Nat.le_refl _⟩, ⟨by (try simp only [hl3_2]); (try simp only [hl3_3]); (with_reducible repeat (first | apply Kd.S_alloc | apply Kd.S_drewN | apply Kd.S_drew)); exact HO_3.out⟩, ⟨uB0 HB⟩⟩
            case round =>
             clear H'; try clear c1
             try clear p1
             try clear q1
             try clear hx1
             try clear hf1
             try clear c2
             try clear c2b0
             try clear c2b1
             try clear p2
             try clear c3
             try clear c3b0
             try clear c3b1
             try clear c6
             try clear c6b0
             try clear p6
             try clear c7
             try clear c7b0
             try clear c8
             try clear c8b0
             try clear c9
             try clear c10
             try clear c10b0
             try clear p10
             try clear q10
             try clear hx10
             try clear c11
             try clear p11
             try clear q11
             try clear hx11
             try clear hf11
             try clear c12
             try clear c18
             try clear c18b0
             try clear c19
             try clear c19b0
             try clear hx104_0
             try clear hx11_0
             try clear p1
             try clear p10
             try clear p104
             try clear p11
             try clear p2
             try clear p6
             try clear q1
             try clear q10
             try clear q104
             try clear q11
             obtain ⟨x3_4, x41_4, rfl, HA, HK4, HO_3, HB⟩ := hrel; have hl3_4 := (Kd.S_reads' HO_3.out).1; rw [hl3_4] at HO_3; (try simp only [hl3_4])
             cases gk with
             | zero => exact absurd HA.out (by simp [impl_closed.l3])
             | succ k4 =>
              have H := HA.out; clear HA; simp only [impl_closed.l3] at H; by_cases c20 : x41_4 < (x3_3.length : Int)
              ·
               rw [if_pos c20] at H; have c20b0 := dl c20; clear c20; (try simp only [hl3_2] at c20b0); (try simp only [hl3_3] at c20b0); (try simp only [hl3_4] at c20b0); by_cases c21 : 0 ≤ x36_3
               ·
                rw [if_pos c21] at H; have c21b0 := de c21; clear c21; by_cases c22 : x36_3 < (x3_4.length : Int)
                ·
                 rw [if_pos c22] at H; have c22b0 := dl c22; clear c22; (try simp only [hl3_2] at c22b0); (try simp only [hl3_3] at c22b0); (try simp only [hl3_4] at c22b0); by_cases c23 : 0 ≤ x31_2
                 ·
                  rw [if_pos c23] at H; have c23b0 := de c23; clear c23; by_cases c24 : x31_2 < ((rd_L5 x3_4 x36_3).length : Int)
                  ·
                   rw [if_pos c24] at H; have c24b0 := dl c24; clear c24; (try simp only [hl3_2] at c24b0); (try simp only [hl3_3] at c24b0); (try simp only [hl3_4] at c24b0); by_cases c25 : (rd (rd_L5 x3_4 x36_3) x31_2) = 99999
                   ·
                    rw [if_pos c25] at H; obtain ⟨c25b0, c25b1⟩ := dq c25; clear c25; have H' := Aside0.mk H; clear H; have p112 : 0 ≤ (x36_3 : Int) := ua; have q112 : x36_3 < (x3_4.length : Int) := ua; obtain ⟨ad112, A112_0, c112_0, e112, hx112_0, hl112_0, hi112_0⟩ := at_L5 (Kd.S_reads' HO_3.out).2.2 x36_3 p112 q112
                    cases e112
                    obtain ⟨ce112, hce112, hMe112, hcc112⟩ := Kd.S_get HO_3.out [] x36_3 p112 (by first | exact q112 | exact ua | (have e_ := (Kd.S_reads' HO_3.out).1; omega)); obtain ⟨ve112_0, rfl, ge112_0⟩ := hMe112; have hv112_0 := hcc112 0 _ rfl; rw [Nat.add_zero, show ((Kd.slice 3 (Kd.int .i64))).sz = 1 from rfl, Nat.mul_one] at hv112_0; replace hv112_0 := Option.some.inj (hv112_0.symm.trans hx112_0); rw [hv112_0] at ge112_0; have HL112_0 := Aside0.mk (show Kd.R (Kd.int .i64) 3 _ _ _ _ (rd_L5 x3_4 x36_3) from ge112_0); clear hv112_0 ge112_0; have HX112_0 := Aside0.mk hx112_0; clear hcc112 hce112; have HR112_0 := Aside0.mk hi112_0; have HC112_0 := Aside0.mk hl112_0; clear hi112_0 hl112_0; replace p112 := eq_true p112; replace q112 := eq_true q112; have p113 : 0 ≤ (x31_2 : Int) := ua; have q113 : x31_2 < ((rd_L5 x3_4 x36_3).length : Int) := ua; obtain ⟨ad113, e113, hx113_0⟩ := Kd.at_int (by repeat (first | (with_reducible exact HR112_0.out) | (with_reducible refine Kd.C_alloc ?_ _) | (with_reducible refine Kd.C_drewN ?_ _) | (with_reducible refine Kd.C_drew ?_) | exact HR112_0.out)) x31_2 p113 q113
                    cases e113
                    replace p113 := eq_true p113; replace q113 := eq_true q113; go_wp2; (try simp only [← hl3_4]); go_roundg k4
                    case measure => have := HK1.out; have := HK2.out; have := HK3.out; have := HK4.out; omega
                    case rel => exact ⟨(x3_4), (wrap64 (x41_4 + 1)), ue, H', ⟨by have := HK1.out; have := HK2.out; have := HK3.out; have := HK4.out; omega⟩, ⟨by (try simp only [hl3_2]); (try simp only [hl3_3]); (try simp only [hl3_4]); (with_reducible repeat (first | apply Kd.S_alloc | apply Kd.S_drewN | apply Kd.S_drew)); exact HO_3.out⟩, ⟨uB0 HB⟩⟩
                   ·
                    rw [if_neg c25] at H; obtain ⟨c25b0, c25b1⟩ := dQ c25; by_cases c26 : x31_2 < (x3_4.length : Int)
                    ·
                     rw [if_pos c26] at H; have c26b0 := dl c26; clear c26; (try simp only [hl3_2] at c26b0); (try simp only [hl3_3] at c26b0); (try simp only [hl3_4] at c26b0); by_cases c27 : 0 ≤ x41_4
                     ·
                      rw [if_pos c27] at H; have c27b0 := de c27; clear c27; by_cases c28 : x41_4 < ((rd_L5 x3_4 x31_2).length : Int)
                      ·
                       rw [if_pos c28] at H; have c28b0 := dl c28; clear c28; (try simp only [hl3_2] at c28b0); (try simp only [hl3_3] at c28b0); (try simp only [hl3_4] at c28b0); by_cases c29 : (rd (rd_L5 x3_4 x31_2) x41_4) = 99999
                       ·
                        rw [if_pos c29] at H; obtain ⟨c29b0, c29b1⟩ := dq c29; clear c29; have H' := Aside0.mk H; clear H; have p112 : 0 ≤ (x36_3 : Int) := ua; have q112 : x36_3 < (x3_4.length : Int) := ua; obtain ⟨ad112, A112_0, c112_0, e112, hx112_0, hl112_0, hi112_0⟩ := at_L5 (Kd.S_reads' HO_3.out).2.2 x36_3 p112 q112
                        cases e112
                        obtain ⟨ce112, hce112, hMe112, hcc112⟩ := Kd.S_get HO_3.out [] x36_3 p112 (by first | exact q112 | exact ua | (have e_ := (Kd.S_reads' HO_3.out).1; omega)); obtain ⟨ve112_0, rfl, ge112_0⟩ := hMe112; have hv112_0 := hcc112 0 _ rfl; rw [Nat.add_zero, show ((Kd.slice 3 (Kd.int .i64))).sz = 1 from rfl, Nat.mul_one] at hv112_0; replace hv112_0 := Option.some.inj (hv112_0.symm.trans hx112_0); rw [hv112_0] at ge112_0; have HL112_0 := Aside0.mk (show Kd.R (Kd.int .i64) 3 _ _ _ _ (rd_L5 x3_4 x36_3) from ge112_0); clear hv112_0 ge112_0; have HX112_0 := Aside0.mk hx112_0; clear hcc112 hce112; have HR112_0 := Aside0.mk hi112_0; have HC112_0 := Aside0.mk hl112_0; clear hi112_0 hl112_0; replace p112 := eq_true p112; replace q112 := eq_true q112; have p113 : 0 ≤ (x31_2 : Int) := ua; have q113 : x31_2 < ((rd_L5 x3_4 x36_3).length : Int) := ua; obtain ⟨ad113, e113, hx113_0⟩ := Kd.at_int (by repeat (first | (with_reducible exact HR112_0.out) | (with_reducible refine Kd.C_alloc ?_ _) | (with_reducible refine Kd.C_drewN ?_ _) | (with_reducible refine Kd.C_drew ?_) | exact HR112_0.out)) x31_2 p113 q113
                        cases e113
                        replace p113 := eq_true p113; replace q113 := eq_true q113; have p114 : 0 ≤ (x31_2 : Int) := ua; have q114 : x31_2 < (x3_4.length : Int) := ua; obtain ⟨ad114, A114_0, c114_0, e114, hx114_0, hl114_0, hi114_0⟩ := at_L5 (Kd.S_reads' HO_3.out).2.2 x31_2 p114 q114; obtain rfl : ad112 = ad114 := (by injection e114)
                        obtain ⟨ce114, hce114, hMe114, hcc114⟩ := Kd.S_get HO_3.out [] x31_2 p114 (by first | exact q114 | exact ua | (have e_ := (Kd.S_reads' HO_3.out).1; omega)); obtain ⟨ve114_0, rfl, ge114_0⟩ := hMe114; have hv114_0 := hcc114 0 _ rfl; rw [Nat.add_zero, show ((Kd.slice 3 (Kd.int .i64))).sz = 1 from rfl, Nat.mul_one] at hv114_0; replace hv114_0 := Option.some.inj (hv114_0.symm.trans hx114_0); rw [hv114_0] at ge114_0; have HL114_0 := Aside0.mk (show Kd.R (Kd.int .i64) 3 _ _ _ _ (rd_L5 x3_4 x31_2) from ge114_0); clear hv114_0 ge114_0; have HX114_0 := Aside0.mk hx114_0; clear hcc114 hce114; have HR114_0 := Aside0.mk hi114_0; have HC114_0 := Aside0.mk hl114_0; clear hi114_0 hl114_0; replace p114 := eq_true p114; replace q114 := eq_true q114; have p115 : 0 ≤ (x41_4 : Int) := ua; have q115 : x41_4 < ((rd_L5 x3_4 x31_2).length : Int) := ua; obtain ⟨ad115, e115, hx115_0⟩ := Kd.at_int (by repeat (first | (with_reducible exact HR114_0.out) | (with_reducible refine Kd.C_alloc ?_ _) | (with_reducible refine Kd.C_drewN ?_ _) | (with_reducible refine Kd.C_drew ?_) | exact HR114_0.out)) x41_4 p115 q115
                        cases e115
                        replace p115 := eq_true p115; replace q115 := eq_true q115; go_wp2; (try simp only [← hl3_4]); go_roundg k4
                        case measure => have := HK1.out; have := HK2.out; have := HK3.out; have := HK4.out; omega
                        case rel => exact ⟨(x3_4), (wrap64 (x41_4 + 1)), ue, H', ⟨by have := HK1.out; have := HK2.out; have := HK3.out; have := HK4.out; omega⟩, ⟨by (try simp only [hl3_2]); (try simp only [hl3_3]); (try simp only [hl3_4]); (with_reducible repeat (first | apply Kd.S_alloc | apply Kd.S_drewN | apply Kd.S_drew)); exact HO_3.out⟩, ⟨uB0 HB⟩⟩
                       ·
                        rw [if_neg c29] at H; obtain ⟨c29b0, c29b1⟩ := dQ c29; by_cases c30 : x41_4 < ((rd_L5 x3_4 x36_3).length : Int)
                        ·
                         rw [if_pos c30] at H; have c30b0 := dl c30; clear c30; (try simp only [hl3_2] at c30b0); (try simp only [hl3_3] at c30b0); (try simp only [hl3_4] at c30b0); obtain ⟨ji31, hji31⟩ : ∃ j_ : Int, (mn (rd (rd_L5 x3_4 x36_3) x41_4) (wrap64 ((rd (rd_L5 x3_4 x36_3) x31_2) + (rd (rd_L5 x3_4 x31_2) x41_4)))) = j_ := ⟨_, rfl⟩
                         replace H : (impl_closed.l3 k4 (x3_4.set (x36_3 : Int).toNat ((rd_L5 x3_4 x36_3).set (x41_4 : Int).toNat (ji31))) x31_2 x36_3 (x3_1.length : Int) x31_2 (x3_2.length : Int) x36_3 (x3_3.length : Int) (wrap64 (x41_4 + 1))) = some r := by first | (rw [hji31] at H; exact H) | (simp only [hji31] at H ⊢; exact H)
                         have hji31_ : (if (wrap64 ((rd (rd_L5 x3_4 x36_3) x31_2) + (rd (rd_L5 x3_4 x31_2) x41_4))) < (rd (rd_L5 x3_4 x36_3) x41_4) then (wrap64 ((rd (rd_L5 x3_4 x36_3) x31_2) + (rd (rd_L5 x3_4 x31_2) x41_4))) else (rd (rd_L5 x3_4 x36_3) x41_4)) = ji31 := hji31; obtain ⟨y123, hy123⟩ : ∃ y_ : List Int, y_ = ((rd_L5 x3_4 x36_3).set (x41_4 : Int).toNat (ji31)) := ⟨_, rfl⟩
                         replace H : (impl_closed.l3 k4 (x3_4.set (x36_3 : Int).toNat y123) x31_2 x36_3 (x3_1.length : Int) x31_2 (x3_2.length : Int) x36_3 (x3_3.length : Int) (wrap64 (x41_4 + 1))) = some r := by first | (rw [hy123]; with_reducible exact H) | (have H2_ := (Option.bind_some _ _).symm.trans H; rw [hy123]; with_reducible exact H2_) | (have H2_ := (Option.bind_some _ _).symm.trans H; with_reducible exact H2_) | with_reducible exact H | (rw [hy123]; exact H) | exact H
                         have Ny123 := Aside0.mk hy123; clear hy123; obtain ⟨y125, hy125⟩ : ∃ y_ : List (List Int), y_ = (x3_4.set (x36_3 : Int).toNat y123) := ⟨_, rfl⟩
                         replace H : (impl_closed.l3 k4 y125 x31_2 x36_3 (x3_1.length : Int) x31_2 (x3_2.length : Int) x36_3 (x3_3.length : Int) (wrap64 (x41_4 + 1))) = some r := by first | (rw [hy125]; with_reducible exact H) | (have H2_ := (Option.bind_some _ _).symm.trans H; rw [hy125]; with_reducible exact H2_) | (have H2_ := (Option.bind_some _ _).symm.trans H; with_reducible exact H2_) | with_reducible exact H | (rw [hy125]; exact H) | exact H
                         have Ny125 := Aside0.mk hy125; clear hy125; have H' := Aside0.mk H; clear H; have p112 : 0 ≤ (x36_3 : Int) := ua; have q112 : x36_3 < (x3_4.length : Int) := ua; obtain ⟨ad112, A112_0, c112_0, e112, hx112_0, hl112_0, hi112_0⟩ := at_L5 (Kd.S_reads' HO_3.out).2.2 x36_3 p112 q112
                         cases e112
                         obtain ⟨ce112, hce112, hMe112, hcc112⟩ := Kd.S_get HO_3.out [] x36_3 p112 (by first | exact q112 | exact ua | (have e_ := (Kd.S_reads' HO_3.out).1; omega)); obtain ⟨ve112_0, rfl, ge112_0⟩ := hMe112; have hv112_0 := hcc112 0 _ rfl; rw [Nat.add_zero, show ((Kd.slice 3 (Kd.int .i64))).sz = 1 from rfl, Nat.mul_one] at hv112_0; replace hv112_0 := Option.some.inj (hv112_0.symm.trans hx112_0); rw [hv112_0] at ge112_0; have HL112_0 := Aside0.mk (show Kd.R (Kd.int .i64) 3 _ _ _ _ (rd_L5 x3_4 x36_3) from ge112_0); clear hv112_0 ge112_0; have HX112_0 := Aside0.mk hx112_0; clear hcc112 hce112; have HR112_0 := Aside0.mk hi112_0; have HC112_0 := Aside0.mk hl112_0; clear hi112_0 hl112_0; replace p112 := eq_true p112; replace q112 := eq_true q112; have p113 : 0 ≤ (x31_2 : Int) := ua; have q113 : x31_2 < ((rd_L5 x3_4 x36_3).length : Int) := ua; obtain ⟨ad113, e113, hx113_0⟩ := Kd.at_int (by repeat (first | (with_reducible exact HR112_0.out) | (with_reducible refine Kd.C_alloc ?_ _) | (with_reducible refine Kd.C_drewN ?_ _) | (with_reducible refine Kd.C_drew ?_) | exact HR112_0.out)) x31_2 p113 q113
                         cases e113
                         replace p113 := eq_true p113; replace q113 := eq_true q113; have p114 : 0 ≤ (x31_2 : Int) := ua; have q114 : x31_2 < (x3_4.length : Int) := ua; obtain ⟨ad114, A114_0, c114_0, e114, hx114_0, hl114_0, hi114_0⟩ := at_L5 (Kd.S_reads' HO_3.out).2.2 x31_2 p114 q114; obtain rfl : ad112 = ad114 := (by injection e114)
                         obtain ⟨ce114, hce114, hMe114, hcc114⟩ := Kd.S_get HO_3.out [] x31_2 p114 (by first | exact q114 | exact ua | (have e_ := (Kd.S_reads' HO_3.out).1; omega)); obtain ⟨ve114_0, rfl, ge114_0⟩ := hMe114; have hv114_0 := hcc114 0 _ rfl; rw [Nat.add_zero, show ((Kd.slice 3 (Kd.int .i64))).sz = 1 from rfl, Nat.mul_one] at hv114_0; replace hv114_0 := Option.some.inj (hv114_0.symm.trans hx114_0); rw [hv114_0] at ge114_0; have HL114_0 := Aside0.mk (show Kd.R (Kd.int .i64) 3 _ _ _ _ (rd_L5 x3_4 x31_2) from ge114_0); clear hv114_0 ge114_0; have HX114_0 := Aside0.mk hx114_0; clear hcc114 hce114; have HR114_0 := Aside0.mk hi114_0; have HC114_0 := Aside0.mk hl114_0; clear hi114_0 hl114_0; replace p114 := eq_true p114; replace q114 := eq_true q114; have p115 : 0 ≤ (x41_4 : Int) := ua; have q115 : x41_4 < ((rd_L5 x3_4 x31_2).length : Int) := ua; obtain ⟨ad115, e115, hx115_0⟩ := Kd.at_int (by repeat (first | (with_reducible exact HR114_0.out) | (with_reducible refine Kd.C_alloc ?_ _) | (with_reducible refine Kd.C_drewN ?_ _) | (with_reducible refine Kd.C_drew ?_) | exact HR114_0.out)) x41_4 p115 q115
                         cases e115
                         replace p115 := eq_true p115; replace q115 := eq_true q115; try go_wp2
                         replace HO_3 := Aside0.mk (Kd.S_drew HO_3.out); replace HL112_0 := Aside0.mk (Kd.R_drew HL112_0.out); replace HL114_0 := Aside0.mk (Kd.R_drew HL114_0.out); replace HR112_0 := Aside0.mk (Kd.C_drew HR112_0.out); replace HR114_0 := Aside0.mk (Kd.C_drew HR114_0.out); replace HB := Aside0.mk (below_drew1 HB.out); have p116 : 0 ≤ (x36_3 : Int) := ua; have q116 : x36_3 < (x3_4.length : Int) := ua; obtain ⟨ad116, A116_0, c116_0, e116, hx116_0, hl116_0, hi116_0⟩ := at_L5 (Kd.S_reads' HO_3.out).2.2 x36_3 p116 q116; obtain rfl : ad112 = ad116 := (by injection e116)
                         obtain ⟨ce116, hce116, hMe116, hcc116⟩ := Kd.S_get HO_3.out [] x36_3 p116 (by first | exact q116 | exact ua | (have e_ := (Kd.S_reads' HO_3.out).1; omega)); obtain ⟨ve116_0, rfl, ge116_0⟩ := hMe116; have hv116_0 := hcc116 0 _ rfl; rw [Nat.add_zero, show ((Kd.slice 3 (Kd.int .i64))).sz = 1 from rfl, Nat.mul_one] at hv116_0; replace hv116_0 := Option.some.inj (hv116_0.symm.trans hx116_0); rw [hv116_0] at ge116_0; have HL116_0 := Aside0.mk (show Kd.R (Kd.int .i64) 3 _ _ _ _ (rd_L5 x3_4 x36_3) from ge116_0); clear hv116_0 ge116_0; have HX116_0 := Aside0.mk hx116_0; clear hcc116 hce116; have HR116_0 := Aside0.mk hi116_0; have HC116_0 := Aside0.mk hl116_0; clear hi116_0 hl116_0; replace p116 := eq_true p116; replace q116 := eq_true q116; have p117 : 0 ≤ (x36_3 : Int) := ua; have q117 : x36_3 < (x3_4.length : Int) := ua; obtain ⟨ad117, A117_0, c117_0, e117, hx117_0, hl117_0, hi117_0⟩ := at_L5 (Kd.S_reads' HO_3.out).2.2 x36_3 p117 q117; obtain rfl : ad112 = ad117 := (by injection e117)
                         obtain ⟨ce117, hce117, hMe117, hcc117⟩ := Kd.S_get HO_3.out [] x36_3 p117 (by first | exact q117 | exact ua | (have e_ := (Kd.S_reads' HO_3.out).1; omega)); obtain ⟨ve117_0, rfl, ge117_0⟩ := hMe117; have hv117_0 := hcc117 0 _ rfl; rw [Nat.add_zero, show ((Kd.slice 3 (Kd.int .i64))).sz = 1 from rfl, Nat.mul_one] at hv117_0; replace hv117_0 := Option.some.inj (hv117_0.symm.trans hx117_0); rw [hv117_0] at ge117_0; have HL117_0 := Aside0.mk (show Kd.R (Kd.int .i64) 3 _ _ _ _ (rd_L5 x3_4 x36_3) from ge117_0); clear hv117_0 ge117_0; have HX117_0 := Aside0.mk hx117_0; clear hcc117 hce117; have HR117_0 := Aside0.mk hi117_0; have HC117_0 := Aside0.mk hl117_0; clear hi117_0 hl117_0; replace p117 := eq_true p117; replace q117 := eq_true q117; have ea_ := Option.some.inj (hx116_0.symm.trans hx117_0); injection ea_ with ea_ en_ ec_
                         subst ea_; subst ec_; clear en_; have p118 : 0 ≤ (x41_4 : Int) := ua; have q118 : x41_4 < ((rd_L5 x3_4 x36_3).length : Int) := ua; obtain ⟨ad118, e118, hx118_0⟩ := Kd.at_int (by repeat (first | (with_reducible exact HR117_0.out) | (with_reducible refine Kd.C_alloc ?_ _) | (with_reducible refine Kd.C_drewN ?_ _) | (with_reducible refine Kd.C_drew ?_) | exact HR117_0.out)) x41_4 p118 q118
                         cases e118
                         replace p118 := eq_true p118; replace q118 := eq_true q118; have p119 : 0 ≤ (x36_3 : Int) := ua; have q119 : x36_3 < (x3_4.length : Int) := ua; obtain ⟨ad119, A119_0, c119_0, e119, hx119_0, hl119_0, hi119_0⟩ := at_L5 (Kd.S_reads' HO_3.out).2.2 x36_3 p119 q119; obtain rfl : ad112 = ad119 := (by injection e119)
                         obtain ⟨ce119, hce119, hMe119, hcc119⟩ := Kd.S_get HO_3.out [] x36_3 p119 (by first | exact q119 | exact ua | (have e_ := (Kd.S_reads' HO_3.out).1; omega)); obtain ⟨ve119_0, rfl, ge119_0⟩ := hMe119; have hv119_0 := hcc119 0 _ rfl; rw [Nat.add_zero, show ((Kd.slice 3 (Kd.int .i64))).sz = 1 from rfl, Nat.mul_one] at hv119_0; replace hv119_0 := Option.some.inj (hv119_0.symm.trans hx119_0); rw [hv119_0] at ge119_0; have HL119_0 := Aside0.mk (show Kd.R (Kd.int .i64) 3 _ _ _ _ (rd_L5 x3_4 x36_3) from ge119_0); clear hv119_0 ge119_0; have HX119_0 := Aside0.mk hx119_0; clear hcc119 hce119; have HR119_0 := Aside0.mk hi119_0; have HC119_0 := Aside0.mk hl119_0; clear hi119_0 hl119_0; replace p119 := eq_true p119; replace q119 := eq_true q119; have ea_ := Option.some.inj (hx116_0.symm.trans hx119_0); injection ea_ with ea_ en_ ec_
                         subst ea_; subst ec_; clear en_; have p120 : 0 ≤ (x31_2 : Int) := ua; have q120 : x31_2 < ((rd_L5 x3_4 x36_3).length : Int) := ua; obtain ⟨ad120, e120, hx120_0⟩ := Kd.at_int (by repeat (first | (with_reducible exact HR119_0.out) | (with_reducible refine Kd.C_alloc ?_ _) | (with_reducible refine Kd.C_drewN ?_ _) | (with_reducible refine Kd.C_drew ?_) | exact HR119_0.out)) x31_2 p120 q120
                         cases e120
                         replace p120 := eq_true p120; replace q120 := eq_true q120; have p121 : 0 ≤ (x31_2 : Int) := ua; have q121 : x31_2 < (x3_4.length : Int) := ua; obtain ⟨ad121, A121_0, c121_0, e121, hx121_0, hl121_0, hi121_0⟩ := at_L5 (Kd.S_reads' HO_3.out).2.2 x31_2 p121 q121; obtain rfl : ad112 = ad121 := (by injection e121)
                         obtain ⟨ce121, hce121, hMe121, hcc121⟩ := Kd.S_get HO_3.out [] x31_2 p121 (by first | exact q121 | exact ua | (have e_ := (Kd.S_reads' HO_3.out).1; omega)); obtain ⟨ve121_0, rfl, ge121_0⟩ := hMe121; have hv121_0 := hcc121 0 _ rfl; rw [Nat.add_zero, show ((Kd.slice 3 (Kd.int .i64))).sz = 1 from rfl, Nat.mul_one] at hv121_0; replace hv121_0 := Option.some.inj (hv121_0.symm.trans hx121_0); rw [hv121_0] at ge121_0; have HL121_0 := Aside0.mk (show Kd.R (Kd.int .i64) 3 _ _ _ _ (rd_L5 x3_4 x31_2) from ge121_0); clear hv121_0 ge121_0; have HX121_0 := Aside0.mk hx121_0; clear hcc121 hce121; have HR121_0 := Aside0.mk hi121_0; have HC121_0 := Aside0.mk hl121_0; clear hi121_0 hl121_0; replace p121 := eq_true p121; replace q121 := eq_true q121; have p122 : 0 ≤ (x41_4 : Int) := ua; have q122 : x41_4 < ((rd_L5 x3_4 x31_2).length : Int) := ua; obtain ⟨ad122, e122, hx122_0⟩ := Kd.at_int (by repeat (first | (with_reducible exact HR121_0.out) | (with_reducible refine Kd.C_alloc ?_ _) | (with_reducible refine Kd.C_drewN ?_ _) | (with_reducible refine Kd.C_drew ?_) | exact HR121_0.out)) x41_4 p122 q122
                         cases e122
                         replace p122 := eq_true p122; replace q122 := eq_true q122; have p32 : 0 ≤ (x41_4 : Int) := ua; have q32 : (x41_4 : Int) < (((rd_L5 x3_4 x36_3).length : Int) : Int) := ua; obtain ⟨go32, co32, eo32, gb32, gl32, cl32, HG32⟩ := Kd.R_form HL116_0.out (by omega); (first | cases eo32 | (injection eo32 with ea_ en_ ec_; (first | subst ea_ | (injection ea_ with ea_; subst ea_)); subst ec_; clear en_)); have GB32 := Aside0.mk gb32; have GG32 := Aside0.mk HG32; clear gb32 gl32 HG32; (first | simp only [add_plain] at hx120_0 | skip); (first | simp only [add_plain] at hx118_0 | skip); obtain ⟨hx32_0, hf32_0⟩ := Kd.R_celln 0 HL116_0.out (x41_4 : Int) p32 q32; replace p32 := eq_true p32; replace q32 := eq_true q32; have hq34 : (x36_3 : Int) < (x3_4.length : Int) := (by have h_ : (x36_3 : Int) < ((x3_4.length : Int) : Int) := ua; first | exact h_ | (have e_ := (Kd.S_reads' HO_3.out).1; omega) | simpa only [List.length_set, List.length_set] using h_)
                         obtain ⟨oki34, ce34, hcl34, hM34, hcc34, hok34, hbk34⟩ := Kd.S_borrow HO_3.out [] (x36_3 : Int) (ua) hq34; obtain ⟨ve34_0, rfl, ge34_0⟩ := hM34; have hv34 := hcc34 0 _ rfl; rw [Nat.add_zero, show ((Kd.slice 3 (Kd.int .i64))).sz = 1 from rfl, Nat.mul_one] at hv34; replace hv34 := Option.some.inj (hv34.symm.trans HX116_0.out); subst hv34; clear hcc34 hcl34; replace ge34_0 := (show Kd.R (Kd.int .i64) 3 _ _ _ _ (rd_L5 x3_4 x36_3) from ge34_0)
                         have HP34 := Kd.R_putg ge34_0 (x41_4 : Int) ji31; rw [← Ny123.out] at HP34; have HS34 := hbk34 HP34.2 (fun k_ e_ => by injection e_ with e_; subst e_; exact ge34_0.1 _ rfl) (x' := y123) (Kd.M_row HP34.1); rw [← Ny125.out] at HS34; have HQ34 := Aside0.mk HS34; clear HP34 HS34 hbk34 hok34; refine start_ (n := 30) (S := fun w' => w'.cell? (ad112.add (x36_3).toNat) = some (.slice (some ⟨go32, 0, none⟩) (rd_L5 x3_4 x36_3).length c116_0) ∧ w'.cell? (ad112.add (x36_3).toNat) = some (.slice (some ⟨go32, 0, none⟩) (rd_L5 x3_4 x36_3).length c116_0) ∧ w'.cell? ⟨go32, (x41_4).toNat, none⟩ = some (.int .i64 (rd (rd_L5 x3_4 x36_3) x41_4)) ∧ w'.cell? (ad112.add (x36_3).toNat) = some (.slice (some ⟨go32, 0, none⟩) (rd_L5 x3_4 x36_3).length c116_0) ∧ w'.cell? ⟨go32, (x31_2).toNat, none⟩ = some (.int .i64 (rd (rd_L5 x3_4 x36_3) x31_2)) ∧ w'.cell? (ad112.add (x31_2).toNat) = some (.slice (some ad122) (rd_L5 x3_4 x31_2).length c121_0) ∧ w'.cell? (ad122.add (x41_4).toNat) = some (.int .i64 (rd (rd_L5 x3_4 x31_2) x41_4))) (ds := [29]) (zt 30 0) (by kernel_rfl) rfl (by kernel_rfl) ⟨hx116_0, hx117_0, hx118_0, hx119_0, hx120_0, hx121_0, hx122_0⟩ (fun hHeld => ?_); refine with_tabW impl_closed.tab19 impl_closed.bits19 (fun HT_ HW_ => ?_); generalize wr.drew = w33 at HO_3 HL112_0 HL114_0 HR112_0 HR114_0 HB GG32 HL116_0 HL117_0 HL119_0 HL121_0 HQ34 HR116_0 HR117_0 HR119_0 HR121_0 HX116_0 HX117_0 HX119_0 HX121_0 hf32_0 hx116_0 hx117_0 hx118_0 hx119_0 hx120_0 hx121_0 hx122_0 hx32_0 hHeld ⊢; refine qz HT_ 0 ?_; refine qz HT_ 1 ?_; refine qz HT_ 2 ?_; refine qz HT_ 4 ?_; refine qz HT_ 5 ?_; refine qz HT_ 6 ?_; refine qz HT_ 7 ?_; refine qz HT_ 9 ?_; refine qz HT_ 12 ?_; refine qz HT_ 13 ?_; refine qz HT_ 14 ?_; refine qz HT_ 16 ?_; refine qz HT_ 19 ?_; refine qz HT_ 20 ?_; refine qz HT_ 21 ?_; refine qz HT_ 23 ?_; refine qt HT_ HW_ hHeld 3 ?_; refine qt HT_ HW_ hHeld 8 ?_; refine qz HT_ 10 ?_; refine qt HT_ HW_ hHeld 11 ?_; refine qt HT_ HW_ hHeld 15 ?_; refine qz HT_ 17 ?_; refine qt HT_ HW_ hHeld 18 ?_; refine qt HT_ HW_ hHeld 22 ?_; refine qz HT_ 24 ?_; refine qt HT_ HW_ hHeld 25 ?_; refine qz HT_ 26 ?_; refine qz HT_ 27 ?_; refine qz HT_ 28 ?_; refine last_ (i := 29) (N := none) (zt 30 1073741823) rfl rfl (one_of HT_.out (by kernel_rfl)) (by decide) (fun K hK => ?_); refine skip_ (w1 := ?_) (by rfl) rfl ?_ ?_; rotate_left
                         ·
                          go_simp; rfl
                         refine hK.out _ _ ?_; clear hK K; refine done_ (done_of HT_.out (by kernel_rfl)) ?_; try go_wp2
                         (try simp only [← hl3_4]); go_roundg k4
                         case measure => have := HK1.out; have := HK2.out; have := HK3.out; have := HK4.out; omega
                         case rel => exact ⟨(y125), (wrap64 (x41_4 + 1)), ue, H', ⟨by have := HK1.out; have := HK2.out; have := HK3.out; have := HK4.out; omega⟩, ⟨by (try simp only [hl3_2]); (try simp only [hl3_3]); (try simp only [hl3_4]); (with_reducible repeat (first | apply Kd.S_alloc | apply Kd.S_drewN | apply Kd.S_drew)); exact HQ34.out⟩, ⟨uB1 HB GB32.out⟩⟩
                        ·
                         rw [if_neg c30] at H; exact absurd H (by simp)
                      ·
                       rw [if_neg c28] at H; exact absurd H (by simp)
                     ·
                      rw [if_neg c27] at H; exact absurd H (by simp)
                    ·
                     rw [if_neg c26] at H; exact absurd H (by simp)
                  ·
                   rw [if_neg c24] at H; exact absurd H (by simp)
                 ·
                  rw [if_neg c23] at H; exact absurd H (by simp)
                ·
                 rw [if_neg c22] at H; exact absurd H (by simp)
               ·
                rw [if_neg c21] at H; exact absurd H (by simp)
              ·
               rw [if_neg c20] at H; have c20b0 := DL c20; clear c20; (try simp only [hl3_2] at c20b0); (try simp only [hl3_3] at c20b0); (try simp only [hl3_4] at c20b0); have H' := Aside0.mk H; clear H; go_wp2; (try simp only [← hl3_3, ← hl3_4]); go_roundg k4
               case measure => have := HK1.out; have := HK2.out; have := HK3.out; have := HK4.out; omega
               case rel => exact ⟨(x3_4), (wrap64 (x36_3 + 1)), ue, H', ⟨by have := HK1.out; have := HK2.out; have := HK3.out; have := HK4.out; omega⟩, ⟨by (try simp only [hl3_2]); (try simp only [hl3_3]); (try simp only [hl3_4]); (with_reducible repeat (first | apply Kd.S_alloc | apply Kd.S_drewN | apply Kd.S_drew)); exact HO_3.out⟩, ⟨uB0 HB⟩⟩
           ·
            rw [if_neg c19] at H; have c19b0 := DL c19; clear c19; (try simp only [hl3_2] at c19b0); (try simp only [hl3_3] at c19b0); (try simp only [hl3_4] at c19b0); have H' := Aside0.mk H; clear H; go_wp2; (try simp only [← hl3_2, ← hl3_3]); go_roundg k3
            case measure => have := HK1.out; have := HK2.out; have := HK3.out; omega
            case rel => exact ⟨(x3_3), (wrap64 (x31_2 + 1)), ue, H', ⟨by have := HK1.out; have := HK2.out; have := HK3.out; omega⟩, ⟨by (try simp only [hl3_2]); (try simp only [hl3_3]); (with_reducible repeat (first | apply Kd.S_alloc | apply Kd.S_drewN | apply Kd.S_drew)); exact HO_3.out⟩, ⟨uB0 HB⟩⟩
        ·
         rw [if_neg c18] at H; have c18b0 := DL c18; clear c18; (try simp only [hl3_2] at c18b0); (try simp only [hl3_3] at c18b0); (try simp only [hl3_4] at c18b0); obtain rfl := Option.some.inj H; go_wp2; go_ret; exact ⟨_, by first | rfl | (simp [errW_none, errW_some] <;> rfl) | (simp [*, errW_none, errW_some] <;> rfl), by (with_reducible repeat (first | apply Kd.S_alloc | apply Kd.S_drewN | apply Kd.S_drew)); exact HO_3.out, uB0 HB⟩
  ·
   rw [if_neg c3] at H; exact absurd H (by simp)
 ·
  rw [if_neg c2] at H; exact absurd H (by simp)

end Go.Proofs.Ytblpdfgplifccaa.P
